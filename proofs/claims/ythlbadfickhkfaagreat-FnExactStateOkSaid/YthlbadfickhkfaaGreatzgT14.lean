/- Levels sorted by name. No condition. -/
import Derived.Test.YthlbadfickhkfaaGreatzgT12
import Derived.Test.YthlbadfickhkfaaGreatzgG3
import Derived.Test.YthlbadfickhkfaaGreatShelf
import Derived.Test.YthlbadfickhkfaaGreathBx10zg
namespace Go.Aw
open Go.Proofs Go.Shelf Go.RowKit Go.Sort
attribute [local irreducible] aft blk lpK retK AW A0l
set_option linter.unusedVariables false
set_option linter.unusedSimpArgs false
set_option maxRecDepth 100000
def b9w (x y : d7) : Int := Lib.compareBytes x.Name y.Name
def b9y (x : d7) : List Value := [encStr x.Name, .int .i64 x.N]
def b7T (a : List d7) : List d7 := (pdq (ltOf b9w) a.toArray 0 a.length (Lib.bitLen a.length) true true).toList
theorem b1X (x y : d7) : ltOf b9w x y = sLt x.Name y.Name := c8v x.Name y.Name
theorem b9x : SWO (ltOf b9w) where
 irrefl x := by rw [b1X]; exact a5w _
 trans x y z h1 h2 := by rw [b1X] at *; exact a3x _ _ _ h1 h2
 ntrans x y z h1 h2 := by
  rw [b1X] at *
  cases h : sLt x.Name z.Name with
  | false => rfl
  | true =>
    cases h3 : sLt y.Name x.Name with
    | true =>
      have h4 : sLt y.Name z.Name = true := a3x _ _ _ h3 h
      rw [h4] at h2; exact h2
    | false =>
      have e := a2x _ _ h1 h3
      rw [e, h2] at h; exact h.symm
theorem c2u {l : List (List UInt8)} (hn : l.Nodup) : b7T (l.map fun v => ⟨v, 0⟩) = (j8 sLt [] l).map fun v => ⟨v, 0⟩ := by
 have hp := pdq_sorts (ltOf b9w) b9x (l.map fun v => (⟨v, 0⟩ : d7)).toArray 0 (l.map fun v => (⟨v, 0⟩ : d7)).length (Lib.bitLen (l.map fun v => (⟨v, 0⟩ : d7)).length) true true (Nat.zero_le _) (by simp) (Or.inl rfl)
 rw [b7T]
 generalize pdq (ltOf b9w) (l.map fun v => (⟨v, 0⟩ : d7)).toArray 0 (l.map fun v => (⟨v, 0⟩ : d7)).length (Lib.bitLen (l.map fun v => (⟨v, 0⟩ : d7)).length) true true = D at hp ⊢
 have hDs : D.size = (l.map fun v => (⟨v, 0⟩ : d7)).length := by have := hp.1.1; simpa using this
 have hperm : D.toList.Perm (l.map fun v => (⟨v, 0⟩ : d7)) := by
  have := hp.1.2.2
  simp only [Array.toList_extract] at this
  have e1 : (D.toList.extract 0 (l.map fun v => (⟨v, 0⟩ : d7)).length) = D.toList := by simp only [List.extract, Nat.sub_zero, List.drop_zero, ← hDs]; exact List.take_of_length_le (by simp)
  have e2 : ((l.map fun v => (⟨v, 0⟩ : d7)).toArray.toList.extract 0 (l.map fun v => (⟨v, 0⟩ : d7)).length) = (l.map fun v => (⟨v, 0⟩ : d7)) := by simp only [List.extract, Nat.sub_zero, List.drop_zero]; exact List.take_of_length_le (by simp)
  rw [e1, e2] at this
  exact this
 have hnames : (D.toList.map d7.Name).Perm l := by
  have := hperm.map d7.Name
  simpa [Function.comp_def] using this
 have hsorted : (D.toList.map d7.Name).Pairwise fun a b => sLt b a = false := by
  rw [List.pairwise_iff_getElem]
  intro i j hi hj hij
  have hi' : i < D.size := by simpa using hi
  have hj' : j < D.size := by simpa using hj
  have := hp.2 i j (Nat.zero_le _) hij (by rw [← hDs]; exact hj')
  rw [b1X, getElem!_pos D i hi', getElem!_pos D j hj'] at this
  simpa using this
 have hSS : SS sLt (D.toList.map d7.Name) := SS.of_sorted m8 hsorted (hnames.nodup_iff.2 hn)
 have he : D.toList.map d7.Name = j8 sLt [] l := SS.uniq m8 hSS (SS.puts m8 SS.nil) fun x => by rw [hnames.mem_iff, p7]; simp
 have hz : ∀ x ∈ D.toList, x.N = 0 := fun x hx => by
  obtain ⟨v, _, rfl⟩ := List.mem_map.1 (hperm.mem_iff.1 hx)
  rfl
 rw [← he, List.map_map]
 refine (List.map_id _).symm.trans (List.map_congr_left fun x hx => ?_)
 have := hz x hx
 cases x
 simp only at this
 subst this
 rfl
theorem c5t {F : Nat → Prop} {w : World} : ∀ {l : List d7} {vs : List Value} {fp : List Nat}, C.RdRows F w (l.map d7.cells) vs fp → vs = l.flatMap b9y ∧ fp = [] ∧ ∀ n, n ∈ l → n.Name.length ≤ maxLen ∧ IntKind.i64.min ≤ n.N ∧ n.N ≤ IntKind.i64.max
 | [], vs, fp, h => by
   unfold List.map C.RdRows at h
   exact ⟨h.1, h.2, by simp⟩
 | n :: l, vs, fp, h => by
   rw [List.map_cons] at h
   unfold C.RdRows at h
   obtain ⟨v1, v2, f1, f2, rfl, rfl, h1, h2⟩ := h
   obtain ⟨rfl, rfl, h3⟩ := c5t h2
   unfold d7.cells C.RdVals at h1
   obtain ⟨v, vs', g1, g2, rfl, rfl, k1, k2⟩ := h1
   unfold C.RdVals at k2
   obtain ⟨u, us', g3, g4, rfl, rfl, k3, k4⟩ := k2
   unfold C.RdVals at k4
   obtain ⟨rfl, rfl⟩ := k4
   unfold C.Rd at k1 k3
   obtain ⟨rfl, q1, rfl⟩ := k1
   obtain ⟨rfl, q3, rfl⟩ := k3
   refine ⟨rfl, rfl, fun m hm => ?_⟩
   rcases List.mem_cons.1 hm with rfl | hm
   ·exact ⟨q1, q3⟩
   ·exact h3 m hm
theorem c5p {F : Nat → Prop} {w : World} : ∀ {l : List d7}, (∀ n, n ∈ l → n.Name.length ≤ maxLen ∧ IntKind.i64.min ≤ n.N ∧ n.N ≤ IntKind.i64.max) → C.RdRows F w (l.map d7.cells) (l.flatMap b9y) []
 | [], h => by unfold List.map C.RdRows; exact ⟨rfl, rfl⟩
 | n :: l, h => by
   rw [List.map_cons, List.flatMap_cons]
   unfold C.RdRows
   refine ⟨b9y n, _, [], [], rfl, rfl, ?_, c5p fun m hm => h m (by simp [hm])⟩
   have hn := h n (by simp)
   unfold d7.cells b9y C.RdVals
   refine ⟨_, _, [], [], rfl, rfl, ?_, ?_⟩
   ·unfold C.Rd; exact ⟨rfl, hn.1, rfl⟩
   ·unfold C.RdVals
    refine ⟨_, [], [], [], rfl, rfl, ?_, ?_⟩
    ·unfold C.Rd; exact ⟨rfl, hn.2, rfl⟩
    ·unfold C.RdVals; exact ⟨rfl, rfl⟩
theorem c3P (a b : ByteArray) (w : World) : Calls Tryz.prog 78 #[.string a, .string b] w fun e w' => e = .returned (.int .i64 (Lib.compareBytes a.data.toList b.data.toList)) ∧ w' = w := by
 have HC : ∀ w, Aside (Calls Tryz.prog 148 #[.string a, .string b] w fun e w' => e = .returned (.int .i64 (Lib.compareBytes a.data.toList b.data.toList)) ∧ w' = w) := fun w => b9u a b w
 generalize Lib.compareBytes a.data.toList b.data.toList = r at HC ⊢
 go_enter Tryz.func78, Tryz.ntmps78
 go_wp2_with (go_at_call 148; refine (HC _).out.mono ?_; rintro e w' ⟨rfl, rfl⟩)
 go_ret
 exact ⟨rfl, rfl⟩
theorem c6Z (a b : ByteArray) (m n : Int) (W : World) : Calls Tryz.prog 77 #[.agg #[.string a, .int .i64 m], .agg #[.string b, .int .i64 n]] W fun e w' => e = .returned (.int .i64 (Lib.compareBytes a.data.toList b.data.toList)) ∧ ∃ q os', w' = grow (W.drewN q) os' := by
 have HC : ∀ w, Aside (Calls Tryz.prog 78 #[.string a, .string b] w fun e w' => e = .returned (.int .i64 (Lib.compareBytes a.data.toList b.data.toList)) ∧ w' = w) := fun w => c3P a b w
 generalize Lib.compareBytes a.data.toList b.data.toList = r at HC ⊢
 go_enter Tryz.func77, Tryz.ntmps77
 go_wp2_with (go_at_call 78; refine (HC _).out.mono ?_; rintro e w' ⟨rfl, rfl⟩)
 go_ret
 exact ⟨rfl, 0, _, by rw [alloc_eq_grow, alloc_eq_grow, grow_grow]; exact rfl⟩
theorem c6U (a : List d7) (hpre : a.length < 4611686018427387904) : A0l Tryz.prog 76 [(false, [.sl true [.s [], .i .i64 0] (a.map d7.cells)]), (false, [.f 77 []])] [(0, (false, [.sl true [.s [], .i .i64 0] ((b7T a).map d7.cells)]))] (.tup []) := by
 exact c7g Tryz.sortLev (by kernel_rfl) (k := 2) (fun w => rfl) (fun w => rfl) (enc := b9y) (cf := d7.cells) rfl (fun _ => rfl) (fun _ => rfl) (fun x v hv => by simp only [b9y, List.mem_cons, List.not_mem_nil, or_false] at hv; rcases hv with rfl | rfl <;> rfl) (fun _ _ _ _ _ h => c5t h) (fun _ _ _ h => c5p h) b9w b9x (enters_of Tryz.func77 (by kernel_rfl) rfl) (fun W x y => c6Z ⟨x.Name.toArray⟩ ⟨y.Name.toArray⟩ x.N y.N W) a hpre
noncomputable def b2D : CT := o6 (fun (x : (List d7)) h => c6U x h)
@[go_sem] theorem c9b (a : List d7) : b2D [(false, [.sl true [.s [], .i .i64 0] (a.map d7.cells)]), (false, [.f 77 []])] = some (a.length < 4611686018427387904, [(0, (false, [.sl true [.s [], .i .i64 0] ((b7T a).map d7.cells)]))], .tup []) := i6 _ (by intro x y h; simp at h; simp_all) a
theorem c0f : OkC Tryz.prog 76 b2D := i7 _
end Go.Aw
