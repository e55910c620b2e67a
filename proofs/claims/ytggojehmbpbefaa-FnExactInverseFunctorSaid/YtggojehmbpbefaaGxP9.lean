/- The law of InverseFunctor. -/
import Derived.Test.YtggojehmbpbefaaGxPm
import Derived.Test.YtggojehmbpbefaaGxL9M
namespace Go.Gx
open Classical
set_option maxHeartbeats 1000000

theorem l01Has_eq {l : List Int} (h : Small l) (x : Int) : M.spec_l01Has l x = some (decide (x ∈ l)) := by
  apply Ret.ask
  unfold M.spec_l01Has
  simp only [decide_eq_true_eq, beq_iff_eq]
  refine Ret.all (l.length : Int) (fun i => el l i ≠ x) (by omega) (by omega) ?_ ?_
  · intro i next hi0 hi1 hp hn1
    rw [if_pos hi1]
    refine Ret.idx hi0 hi1 (Ret.ite (fun he => Ret.some ?_) (fun he => hn1 he))
    exact ⟨fun _ => he ▸ el_mem hi0 hi1, fun _ => rfl⟩
  · intro next hp
    rw [if_neg (by omega)]
    refine Ret.some ⟨(fun h => by cases h), fun hx => ?_⟩
    obtain ⟨i, h0, h1, e⟩ := mem_el hx
    exact absurd e (hp i h0 h1)

noncomputable def imgP (l : List Int) : Int → Bool := fun t => decide (t ∈ l)

theorem l01Image_eq {l : List Int} (h : Small l) {n : Int} (h0 : 0 ≤ n) (h1 : n ≤ 1048576) : M.spec_l01Image n l = some (fil n (imgP l)) := by
  apply Ret.eq
  unfold M.spec_l01Image
  refine Ret.acc n (fun i a => a = fil i (imgP l)) h0 (by omega) rfl ?_ ?_
  · rintro i a next hi0 hi1 rfl hn1
    have hle := fil_length_le i (imgP l)
    dsimp only
    simp only [decide_eq_true_eq]
    rw [if_pos hi1]
    refine Ret.call (l01Has_eq h i) (Ret.ite (fun hb => Ret.chk ?_ (hn1 _ ?_)) (fun hb => hn1 _ ?_))
    · unfold lim; simp only [List.length_cons, List.length_nil]; omega
    · rw [fil_succ _ hi0, if_pos (show imgP l i = true from hb)]
    · rw [fil_succ _ hi0, if_neg (show ¬ imgP l i = true from hb)]; simp
  · rintro a next rfl
    dsimp only
    simp only [decide_eq_true_eq]
    rw [if_neg (by omega)]
    exact Ret.some rfl

def Bij (n : Int) (l : List Int) : Prop := (l.length : Int) = n ∧ ((fil n (imgP l)).length : Int) = n

theorem l06Bijective_eq {l : List Int} (h : Small l) {n : Int} (h0 : 0 ≤ n) (h1 : n ≤ 1048576) : M.spec_l06Bijective n l = some (decide (Bij n l)) := by
  apply Ret.ask
  unfold M.spec_l06Bijective Bij
  simp only [beq_iff_eq]
  refine Ret.ite (fun he => ?_) (fun he => Ret.some (by simp [he]))
  refine Ret.call (l01Image_eq h h0 h1) (Ret.some ?_)
  rw [beq_iff_eq]
  exact ⟨fun hx => ⟨he, by omega⟩, fun hx => by omega⟩

theorem marked_eq {n : Int} {p : Int → Bool} (h0 : 0 ≤ n) (h1 : n ≤ 1048576) : M.impl_marked (tab n p) = some (fil n p) := by
  apply Ret.eq
  unfold M.impl_marked
  have e1 : ((n.toNat : Nat) : Int) = n := by omega
  simp only [tab_length, e1, decide_eq_true_eq]
  refine Ret.acc n (fun i a => a = fil i p) h0 (by omega) rfl ?_ ?_
  · rintro i a next hi0 hi1 rfl hn1
    have hle := fil_length_le i p
    dsimp only
    rw [if_pos hi1]
    refine Ret.idx hi0 (by rw [tab_length]; omega) ?_
    rw [el_tab hi0 hi1]
    refine Ret.ite (fun hb => Ret.chk ?_ (hn1 _ ?_)) (fun hb => hn1 _ ?_)
    · unfold lim; simp only [List.length_cons, List.length_nil]; omega
    · rw [fil_succ _ hi0, if_pos hb]
    · rw [fil_succ _ hi0, if_neg hb]; simp
  · rintro a next rfl
    dsimp only
    rw [if_neg (by omega)]
    exact Ret.some rfl

theorem image_eq {l : List Int} (h : Small l) {n : Int} (h0 : 0 ≤ n) (h1 : n ≤ 1048576) (hin : In n l) : M.impl_image n l = some (fil n (imgP l)) := by
  apply Ret.eq
  unfold M.impl_image
  refine Ret.chk ⟨h0, by unfold lim; omega⟩ ?_
  refine Ret.acc (l.length : Int) (fun i a => a = tab n fun t => decide (t ∈ l.take i.toNat)) (by omega) (by omega) ?_ ?_ ?_
  · rw [rep_tab]; apply tab_congr; intro j j0 j1; simp
  · rintro i a next hi0 hi1 rfl hn1
    have hx := hin i hi0 hi1
    dsimp only
    simp only [decide_eq_true_eq]
    rw [if_pos hi1]
    refine Ret.idx hi0 hi1 (Ret.idx hx.1 (by rw [tab_length]; omega) (hn1 _ ?_))
    rw [set_tab hx.1]
    apply tab_congr; intro j j0 j1
    rw [take_succ_el hi0 hi1]
    by_cases hj : j = el l i
    · rw [if_pos hj]; simp [hj]
    · rw [if_neg hj]; simp [hj]
  · rintro a next rfl
    dsimp only
    simp only [decide_eq_true_eq]
    rw [if_neg (by omega)]
    refine Ret.call (marked_eq h0 h1) (Ret.some ?_)
    apply fil_congr; intro j j0 j1
    unfold imgP
    simp

theorem isBijective_eq {l : List Int} (h : Small l) {n : Int} (h0 : 0 ≤ n) (h1 : n ≤ 1048576) (hin : In n l) : M.impl_isBijective l n = some (decide (Bij n l)) := by
  apply Ret.ask
  unfold M.impl_isBijective Bij
  simp only [beq_iff_eq]
  refine Ret.ite (fun he => ?_) (fun he => Ret.some (by simp [he]))
  refine Ret.call (within_eq h (by omega) (by omega)) ?_
  rw [if_pos (decide_eq_true hin)]
  refine Ret.call (image_eq h h0 h1 hin) (Ret.some ?_)
  rw [beq_iff_eq]
  exact ⟨fun hx => ⟨he, hx⟩, fun hx => hx.2⟩

theorem back_same (l : List Int) : M.impl_backwards l = M.spec_l06Back l := rfl

theorem back_r {l : List Int} (h : Small l) (hin : In (l.length : Int) l) : Ret (M.spec_l06Back l) fun r => Small r := by
  unfold M.spec_l06Back
  refine Ret.chk ⟨by omega, by unfold lim; omega⟩ ?_
  refine Ret.acc (l.length : Int) (fun i a => a.length = l.length) (by omega) (by omega) (by simp) ?_ ?_
  · rintro i a next hi0 hi1 ha hn1
    have hx := hin i hi0 hi1
    dsimp only
    simp only [decide_eq_true_eq]
    rw [if_pos hi1]
    refine Ret.idx hi0 hi1 (Ret.idx hx.1 (by omega) (hn1 _ ?_))
    rw [List.length_set]; exact ha
  · rintro a next ha
    dsimp only
    simp only [decide_eq_true_eq]
    rw [if_neg (by omega)]
    refine Ret.some ?_
    unfold Small; omega

def IsIso (f : XFunctor) : Prop := Bij f.Target.Objects f.Objects ∧ Bij (f.Target.From.length : Int) f.Arrows

theorem l06Iso_eq {f : XFunctor} (hs : SmallF f) (h : IsFun f) : M.spec_l06Iso f = some (decide (IsIso f)) := by
  have hT := h.2.1.1.shp
  have := hT.n0
  have := hT.n8
  have := hT.m40
  apply Ret.ask
  unfold M.spec_l06Iso IsIso
  refine Ret.call (l06Bijective_eq hs.s3 (by omega) (by omega)) ?_
  simp only [decide_eq_true_eq]
  refine Ret.ite (fun h1 => ?_) (fun h1 => Ret.some (by simp [h1]))
  refine Ret.call (l06Bijective_eq hs.s4 (by omega) (by omega)) (Ret.some ?_)
  simp [h1]

theorem isIsomorphism_eq {f : XFunctor} (hs : SmallF f) (h : IsFun f) : M.impl_Functor_isIsomorphism f = some (decide (IsIso f)) := by
  have hT := h.2.1.1.shp
  have := hT.n0
  have := hT.n8
  have := hT.m40
  apply Ret.ask
  unfold M.impl_Functor_isIsomorphism M.impl_Category_arrows IsIso
  refine Ret.call (isBijective_eq hs.s3 (by omega) (by omega) h.2.2.ino) ?_
  simp only [decide_eq_true_eq, Option.bind_some]
  refine Ret.ite (fun h1 => ?_) (fun h1 => Ret.some (by simp [h1]))
  refine Ret.call (isBijective_eq hs.s4 (by omega) (by omega) h.2.2.ina) (Ret.some ?_)
  simp [h1]

/-- Both answer alike, with a small functor. -/
theorem InverseFunctor_both {f : XFunctor} (hs : SmallF f) : ∃ g w, SmallF g ∧ M.spec_InverseFunctor f = some (g, w) ∧ M.impl_InverseFunctor f = some (g, w) := by
  unfold M.spec_InverseFunctor M.impl_InverseFunctor
  rw [l06Is_eq hs, isFunctor_eq hs]
  by_cases h : IsFun f
  · simp only [Option.bind_some, h, decide_true, if_true]
    rw [l06Iso_eq hs h, isIsomorphism_eq hs h]
    simp only [Option.bind_some, back_same]
    by_cases hi : IsIso f
    · have hi' := hi
      obtain ⟨⟨b1, _⟩, ⟨b2, _⟩⟩ := hi'
      obtain ⟨o, eo, so⟩ := back_r hs.s3 (by rw [b1]; exact h.2.2.ino)
      obtain ⟨a, ea, sa⟩ := back_r hs.s4 (by rw [b2]; exact h.2.2.ina)
      rw [if_pos (decide_eq_true hi), if_pos (decide_eq_true hi), eo, ea]
      simp only [Option.bind_some]
      rw [l06Make_eq hs.s2 hs.s1 so sa, functor_eq hs.s2 hs.s1 so sa]
      exact ⟨_, _, ⟨hs.s2, hs.s1, so, sa⟩, rfl, rfl⟩
    · simp only [hi, decide_false, Bool.false_eq_true, if_false]
      exact ⟨zeroF, _, zeroF_small, rfl, rfl⟩
  · simp only [Option.bind_some, h, decide_false, Bool.false_eq_true, if_false]
    exact ⟨zeroF, _, zeroF_small, rfl, rfl⟩

theorem law_InverseFunctor {f : XFunctor} (h : R.XFunctor f) : M.laws_FnExactInverseFunctor f = some true := by
  unfold M.laws_FnExactInverseFunctor
  obtain ⟨v, e, hv⟩ := szFunctor_r (n := 1048576) (by decide) (by decide) (fitsF h)
  rw [e]
  simp only [Option.bind_some, decide_eq_true_eq]
  split
  · rfl
  · have hs : SmallF f := by
      rcases hv with ⟨h1, _⟩ | ⟨_, _, h3⟩
      · exact absurd h1 ‹_›
      · exact h3
    obtain ⟨g, w, hg, e1, e2⟩ := InverseFunctor_both hs
    rw [toFunctor_eq hs]
    simp only [Option.bind_some]
    rw [e1, e2]
    simp only [Option.bind_some]
    rw [eqFunctor_refl hg, eqFunctor_refl hs]
    obtain ⟨n1, x1, a1, b1, c1, f1, g1⟩ := mh_F hs 1 (by omega) (by omega)
    obtain ⟨n2, ⟨⟨o1, p1, p2, p3, p4⟩, ⟨o2, q1, q2, q3, q4⟩, r1, r2⟩, a2, b2, c2, f2, g2, g3⟩ := mh_F hg 1 (by omega) (by omega)
    dsimp only at g2 g3
    subst g2 g3
    simp only [Option.bind_some, bne_self_eq_false, Bool.false_eq_true, if_false, if_true, c1, c2, f2]
    rw [if_neg (by omega), if_neg (by omega)]

end Go.Gx
