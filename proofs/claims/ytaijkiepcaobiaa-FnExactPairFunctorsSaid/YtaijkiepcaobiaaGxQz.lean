/- The law of PairFunctors. -/
import Derived.Test.YtaijkiepcaobiaaGxQp
import Derived.Test.YtaijkiepcaobiaaGxv29M
namespace Go.Gx
open Classical
set_option maxHeartbeats 1000000

theorem l06Zip_eq {a b : List Int} {n A : Int} (h : PairOk a b n A) (hl : (a.length : Int) ≤ (b.length : Int)) : M.spec_l06Zip a b n = some (zipL a b n) := by
  apply Ret.eq
  have la := h.la
  unfold M.spec_l06Zip
  refine Ret.acc (a.length : Int) (fun i s => s = tab i fun i => el a i * n + el b i) (by omega) (by omega) rfl ?_ ?_
  · rintro i s next i0 i1 rfl hn1
    dsimp only
    simp only [decide_eq_true_eq]
    rw [if_pos i1]
    refine Ret.idx i0 i1 (Ret.idx i0 (by omega) (Ret.chk ?_ (hn1 _ ?_)))
    · rw [tab_length]; unfold lim; simp only [List.length_cons, List.length_nil]; omega
    · rw [tab_succ _ i0]; exact congrArg (fun z => _ ++ [z]) (h.code i0 i1 i0 (by omega))
  · rintro s next rfl
    dsimp only
    simp only [decide_eq_true_eq]
    rw [if_neg (by omega)]
    exact Ret.some rfl
theorem zipL_small {a b : List Int} {n A : Int} (h : PairOk a b n A) : Small (zipL a b n) := by
  have la := h.la
  unfold Small zipL; rw [tab_length]; omega
/-- A loop that makes codes in place. -/
theorem zip_set {a b : List Int} {n : Int} {i : Int} (i0 : 0 ≤ i) :
    (tab (a.length : Int) fun j => if j < i then el a j * n + el b j else el a j).set i.toNat (el a i * n + el b i) = tab (a.length : Int) fun j => if j < i + 1 then el a j * n + el b j else el a j := by
  rw [set_tab i0]
  apply tab_congr; intro j j0 j1
  by_cases hj : j = i
  · subst hj; rw [if_pos rfl, if_pos (by omega)]
  · rw [if_neg hj]
    by_cases hlt : j < i
    · rw [if_pos hlt, if_pos (by omega)]
    · rw [if_neg hlt, if_neg (by omega)]
theorem zip_start (a b : List Int) (n : Int) : a = tab (a.length : Int) fun j => if j < 0 then el a j * n + el b j else el a j := by
  conv => lhs; rw [← tab_el a]
  apply tab_congr; intro j j0 j1; rw [if_neg (by omega)]
theorem zip_end (a b : List Int) (n : Int) : (tab (a.length : Int) fun j => if j < (a.length : Int) then el a j * n + el b j else el a j) = zipL a b n := by
  unfold zipL
  apply tab_congr; intro j j0 j1; rw [if_pos j1]

theorem PairFunctors_both {f g : XFunctor} (hf : SmallF f) (hg : SmallF g) : ∃ r w, SmallF r ∧ M.spec_PairFunctors f g = some (r, w) ∧ M.impl_PairFunctors f g = some (r, w) := by
  unfold M.spec_PairFunctors M.impl_PairFunctors
  rw [l06Two_eq hf hg, areTwo_eq hf hg, l02Same_eq hf.s1 hg.s1, sameCategory_eq hf.s1 hg.s1]
  by_cases h : IsFun f ∧ IsFun g
  case neg =>
    rw [if_neg h, dF h]
    exact ⟨zeroF, _, zeroF_small, rfl, rfl⟩
  by_cases h3 : f.Source = g.Source
  case neg =>
    rw [if_pos h, dT h, dF h3]
    exact ⟨zeroF, _, zeroF_small, rfl, rfl⟩
  have fT := h.1.2.1.1.shp
  have gT := h.2.2.1.1.shp
  rw [if_pos h, dT h, dT h3, l03Product_eq fT gT, product_eq fT gT]
  simp only [Option.bind_some, fits_prod fT gT, M.impl_Category_arrows]
  by_cases p2 : PFits f.Target g.Target
  case neg =>
    rw [if_neg p2, dF p2]
    exact ⟨zeroF, _, zeroF_small, rfl, rfl⟩
  have o := pairOk_o h.1 h.2
  have a := pairOk_a h.1 h.2
  have s2 := prodC_small fT gT p2
  have lo : (f.Objects.length : Int) = (g.Objects.length : Int) := by
    have x := h.1.2.2.lo
    have y := h.2.2.2.lo
    rw [← h3] at y; omega
  have la : (f.Arrows.length : Int) = (g.Arrows.length : Int) := by
    have x := h.1.2.2.la
    have y := h.2.2.2.la
    rw [← h3] at y; omega
  have x1 := o.la
  have x2 := a.la
  have z1 := zipL_small o
  have z2 := zipL_small a
  rw [if_pos p2, dT p2, l06Zip_eq o (by omega), l06Zip_eq a (by omega), clone_eq hf.s3, clone_eq hf.s4]
  simp only [Option.bind_some, if_true, bne_self_eq_false, Bool.false_eq_true, if_false]
  rw [l06Make_eq hf.s1 s2 z1 z2]
  refine ⟨⟨f.Source, prodC f.Target g.Target, zipL f.Objects g.Objects g.Target.Objects, zipL f.Arrows g.Arrows (g.Target.From.length : Int)⟩, 0, ⟨hf.s1, s2, z1, z2⟩, rfl, ?_⟩
  apply Ret.eq
  refine Ret.acc (f.Objects.length : Int) (fun i l => l = tab (f.Objects.length : Int) fun j => if j < i then el f.Objects j * g.Target.Objects + el g.Objects j else el f.Objects j) (by omega) (by omega) (zip_start _ _ _) ?_ ?_
  · rintro i l next i0 i1 rfl hn1
    dsimp only
    simp only [decide_eq_true_eq]
    rw [if_pos i1]
    refine Ret.idx i0 (by rw [tab_length]; omega) (Ret.idx i0 (by omega) (hn1 _ ?_))
    rw [el_tab i0 i1, if_neg (by omega)]
    have e := o.code i0 i1 i0 (by omega)
    rw [e]
    exact zip_set i0
  · rintro l next rfl
    dsimp only
    simp only [decide_eq_true_eq]
    rw [if_neg (by omega), zip_end]
    refine Ret.acc (f.Arrows.length : Int) (fun i l => l = tab (f.Arrows.length : Int) fun j => if j < i then el f.Arrows j * (g.Target.From.length : Int) + el g.Arrows j else el f.Arrows j) (by omega) (by omega) (zip_start _ _ _) ?_ ?_
    · rintro i l next i0 i1 rfl hn1
      dsimp only
      rw [if_pos i1]
      refine Ret.idx i0 (by rw [tab_length]; omega) (Ret.idx i0 (by omega) (hn1 _ ?_))
      rw [el_tab i0 i1, if_neg (by omega)]
      have e := a.code i0 i1 i0 (by omega)
      rw [e]
      exact zip_set i0
    · rintro l next rfl
      dsimp only
      rw [if_neg (by omega), zip_end]
      exact Ret.call (functor_eq hf.s1 s2 z1 z2) (Ret.some rfl)

theorem law_PairFunctors {a0 : XFunctor} {a1 : XFunctor} (h0 : R.XFunctor a0) (h1 : R.XFunctor a1) : M.laws_FnExactPairFunctors a0 a1 = some true := by
  unfold M.laws_FnExactPairFunctors
  obtain ⟨v0, e0, hv0⟩ := szFunctor_r (n := 1048576) (by decide) (by decide) (fitsF h0)
  rw [e0]
  simp only [Option.bind_some, decide_eq_true_eq]
  split
  · rfl
  · obtain ⟨l0, u0, s0⟩ : 0 ≤ v0 ∧ v0 ≤ 1048576 ∧ SmallF a0 := by
      rcases hv0 with ⟨z, _⟩ | z
      · exact absurd z ‹_›
      · exact z
    obtain ⟨v1, e1, hv1⟩ := szFunctor_r (n := v0) l0 (by omega) (fitsF h1)
    rw [e1]
    simp only [Option.bind_some]
    split
    · rfl
    · obtain ⟨l1, u1, s1⟩ : 0 ≤ v1 ∧ v1 ≤ v0 ∧ SmallF a1 := by
        rcases hv1 with ⟨z, _⟩ | z
        · exact absurd z ‹_›
        · exact z
      rw [toFunctor_eq s0, toFunctor_eq s1]
      simp only [Option.bind_some]
      obtain ⟨g, w, hg, es, ei⟩ := PairFunctors_both s0 s1
      rw [es, ei]
      simp only [Option.bind_some]
      rw [eqFunctor_refl hg, eqFunctor_refl s0, eqFunctor_refl s1]
      obtain ⟨n0, x0, p0, q0, c0, d0, _⟩ := mh_F s0 1 (by omega) (by omega)
      obtain ⟨n1, x1, p1, q1, c1, d1, _⟩ := mh_F s1 (1 + n0) (by omega) (by omega)
      obtain ⟨n2, x2, p2, q2, c2, d2, _⟩ := mh_F hg 1 (by omega) (by omega)
      simp only [Option.bind_some, bne_self_eq_false, Bool.false_eq_true, if_false, if_true, c0, c1, c2, d2]
      rw [if_neg (by omega), if_neg (by omega)]

end Go.Gx
