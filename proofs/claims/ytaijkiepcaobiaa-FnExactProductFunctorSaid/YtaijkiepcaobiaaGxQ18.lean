/- The law of ProductFunctor. -/
import Derived.Test.YtaijkiepcaobiaaGxQp
import Derived.Test.YtaijkiepcaobiaaGxv18M
namespace Go.Gx
open Classical
set_option maxHeartbeats 1000000

theorem l06Pairs_eq {a b : List Int} {n A : Int} (h : PairOk a b n A) : M.spec_l06Pairs a b n = some (pairL a b n) := by
  apply Ret.eq
  have la := h.la
  have lb := h.lb
  unfold M.spec_l06Pairs
  refine Ret.acc (a.length : Int) (fun i l => l = tab (i * (b.length : Int)) fun k => pairF a b n (k / (b.length : Int)) (k % (b.length : Int))) (by omega) (by omega) tab2_zero.symm ?_ ?_
  · rintro i l next i0 i1 rfl hn1
    dsimp only
    simp only [decide_eq_true_eq]
    rw [if_pos i1]
    refine Ret.acc (b.length : Int) (fun j l => l = tab (i * (b.length : Int) + j) fun k => pairF a b n (k / (b.length : Int)) (k % (b.length : Int))) (by omega) (by omega) (by rw [Int.add_zero]) ?_ ?_
    · rintro j l next j0 j1 rfl hn2
      dsimp only
      rw [if_pos j1]
      have hl := h.len i0 i1 j0 j1 fun k => pairF a b n (k / (b.length : Int)) (k % (b.length : Int))
      refine Ret.idx i0 i1 (Ret.idx j0 j1 (Ret.chk (by unfold lim; simp only [List.length_cons, List.length_nil]; omega) (hn2 _ ?_)))
      rw [← tab2_push i0 j0 j1]; exact congrArg (fun z => _ ++ [z]) (h.code i0 i1 j0 j1)
    · rintro l next rfl
      dsimp only
      rw [if_neg (by omega)]
      exact hn1 _ tab2_row
  · rintro l next rfl
    dsimp only
    simp only [decide_eq_true_eq]
    rw [if_neg (by omega)]
    exact Ret.some rfl

theorem ProductFunctor_both {f g : XFunctor} (hf : SmallF f) (hg : SmallF g) : ∃ r w, SmallF r ∧ M.spec_ProductFunctor f g = some (r, w) ∧ M.impl_ProductFunctor f g = some (r, w) := by
  unfold M.spec_ProductFunctor M.impl_ProductFunctor
  rw [l06Two_eq hf hg, areTwo_eq hf hg]
  by_cases h : IsFun f ∧ IsFun g
  case neg =>
    rw [if_neg h, dF h]
    exact ⟨zeroF, _, zeroF_small, rfl, rfl⟩
  have fS := h.1.1.1.shp
  have fT := h.1.2.1.1.shp
  have gS := h.2.1.1.shp
  have gT := h.2.2.1.1.shp
  rw [if_pos h, dT h, l03Product_eq fS gS, l03Product_eq fT gT, product_eq fS gS, product_eq fT gT]
  simp only [Option.bind_some, fits_prod fS gS, fits_prod fT gT, M.impl_Category_arrows]
  by_cases p1 : PFits f.Source g.Source
  case neg =>
    rw [if_neg p1, dF p1]
    exact ⟨zeroF, _, zeroF_small, rfl, rfl⟩
  by_cases p2 : PFits f.Target g.Target
  case neg =>
    rw [if_pos p1, if_neg p2, dT p1, dF p2]
    exact ⟨zeroF, _, zeroF_small, rfl, rfl⟩
  have o := pairOk_o h.1 h.2
  have a := pairOk_a h.1 h.2
  have s1 := prodC_small fS gS p1
  have s2 := prodC_small fT gT p2
  have la := o.la
  have lb := o.lb
  have ma := a.la
  have mb := a.lb
  rw [if_pos p1, if_pos p2, dT p1, dT p2, l06Pairs_eq o, l06Pairs_eq a]
  simp only [Option.bind_some, if_true, bne_self_eq_false, Bool.false_eq_true, if_false]
  rw [l06Make_eq s1 s2 o.small a.small]
  refine ⟨⟨prodC f.Source g.Source, prodC f.Target g.Target, pairL f.Objects g.Objects g.Target.Objects, pairL f.Arrows g.Arrows (g.Target.From.length : Int)⟩, 0, ⟨s1, s2, o.small, a.small⟩, rfl, ?_⟩
  apply Ret.eq
  refine Ret.acc (f.Objects.length : Int) (fun i l => l = tab (i * (g.Objects.length : Int)) fun k => pairF f.Objects g.Objects g.Target.Objects (k / (g.Objects.length : Int)) (k % (g.Objects.length : Int))) (by omega) (by omega) tab2_zero.symm ?_ ?_
  · rintro i l next i0 i1 rfl hn1
    dsimp only
    simp only [decide_eq_true_eq]
    rw [if_pos i1]
    refine Ret.idx i0 i1 ?_
    refine Ret.acc (g.Objects.length : Int) (fun j l => l = tab (i * (g.Objects.length : Int) + j) fun k => pairF f.Objects g.Objects g.Target.Objects (k / (g.Objects.length : Int)) (k % (g.Objects.length : Int))) (by omega) (by omega) (by rw [Int.add_zero]) ?_ ?_
    · rintro j l next j0 j1 rfl hn2
      dsimp only
      rw [if_pos j1]
      have hl := o.len i0 i1 j0 j1 fun k => pairF f.Objects g.Objects g.Target.Objects (k / (g.Objects.length : Int)) (k % (g.Objects.length : Int))
      refine Ret.idx j0 j1 (Ret.chk (by unfold lim; simp only [List.length_cons, List.length_nil]; omega) (hn2 _ ?_))
      rw [← tab2_push i0 j0 j1]; exact congrArg (fun z => _ ++ [z]) (o.code i0 i1 j0 j1)
    · rintro l next rfl
      dsimp only
      rw [if_neg (by omega)]
      exact hn1 _ tab2_row
  · rintro l next rfl
    dsimp only
    simp only [decide_eq_true_eq]
    rw [if_neg (by omega)]
    refine Ret.acc (f.Arrows.length : Int) (fun i l => l = tab (i * (g.Arrows.length : Int)) fun k => pairF f.Arrows g.Arrows (g.Target.From.length : Int) (k / (g.Arrows.length : Int)) (k % (g.Arrows.length : Int))) (by omega) (by omega) tab2_zero.symm ?_ ?_
    · rintro i l next i0 i1 rfl hn1
      dsimp only
      rw [if_pos i1]
      refine Ret.idx i0 i1 ?_
      refine Ret.acc (g.Arrows.length : Int) (fun j l => l = tab (i * (g.Arrows.length : Int) + j) fun k => pairF f.Arrows g.Arrows (g.Target.From.length : Int) (k / (g.Arrows.length : Int)) (k % (g.Arrows.length : Int))) (by omega) (by omega) (by rw [Int.add_zero]) ?_ ?_
      · rintro j l next j0 j1 rfl hn2
        dsimp only
        rw [if_pos j1]
        have hl := a.len i0 i1 j0 j1 fun k => pairF f.Arrows g.Arrows (g.Target.From.length : Int) (k / (g.Arrows.length : Int)) (k % (g.Arrows.length : Int))
        refine Ret.idx j0 j1 (Ret.chk (by unfold lim; simp only [List.length_cons, List.length_nil]; omega) (hn2 _ ?_))
        rw [← tab2_push i0 j0 j1]; exact congrArg (fun z => _ ++ [z]) (a.code i0 i1 j0 j1)
      · rintro l next rfl
        dsimp only
        rw [if_neg (by omega)]
        exact hn1 _ tab2_row
    · rintro l next rfl
      dsimp only
      rw [if_neg (by omega)]
      exact Ret.call (functor_eq s1 s2 o.small a.small) (Ret.some rfl)

theorem law_ProductFunctor {a0 : XFunctor} {a1 : XFunctor} (h0 : R.XFunctor a0) (h1 : R.XFunctor a1) : M.laws_FnExactProductFunctor a0 a1 = some true := by
  unfold M.laws_FnExactProductFunctor
  obtain ⟨v0, e0, hv0⟩ := szFunctor_r (n := 1048576) (by decide) (by decide) (fitsF h0)
  rw [e0]
  simp only [Option.bind_some, decide_eq_true_eq]
  split
  · rfl
  · obtain ⟨l0, u0, s0⟩ : 0 ≤ v0 ∧ v0 ≤ 1048576 ∧ SmallF a0 := by
      rcases hv0 with ⟨z, _⟩ | z
      · exact absurd z ‹_›
      · exact z
    obtain ⟨v1, e1, hv1⟩ := szFunctor_r (n := v0) l0 (by omega) (fitsF h1)
    rw [e1]
    simp only [Option.bind_some]
    split
    · rfl
    · obtain ⟨l1, u1, s1⟩ : 0 ≤ v1 ∧ v1 ≤ v0 ∧ SmallF a1 := by
        rcases hv1 with ⟨z, _⟩ | z
        · exact absurd z ‹_›
        · exact z
      rw [toFunctor_eq s0, toFunctor_eq s1]
      simp only [Option.bind_some]
      obtain ⟨g, w, hg, es, ei⟩ := ProductFunctor_both s0 s1
      rw [es, ei]
      simp only [Option.bind_some]
      rw [eqFunctor_refl hg, eqFunctor_refl s0, eqFunctor_refl s1]
      obtain ⟨n0, x0, p0, q0, c0, d0, _⟩ := mh_F s0 1 (by omega) (by omega)
      obtain ⟨n1, x1, p1, q1, c1, d1, _⟩ := mh_F s1 (1 + n0) (by omega) (by omega)
      obtain ⟨n2, x2, p2, q2, c2, d2, _⟩ := mh_F hg 1 (by omega) (by omega)
      simp only [Option.bind_some, bne_self_eq_false, Bool.false_eq_true, if_false, if_true, c0, c1, c2, d2]
      rw [if_neg (by omega), if_neg (by omega)]

end Go.Gx
