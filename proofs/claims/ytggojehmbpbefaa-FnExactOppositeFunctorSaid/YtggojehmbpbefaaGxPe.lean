/- The law of OppositeFunctor. -/
import Derived.Test.YtggojehmbpbefaaGxPm
namespace Go.Gx
open Classical
set_option maxHeartbeats 1000000

def zeroF : XFunctor := ⟨⟨0, [], [], [], []⟩, ⟨0, [], [], [], []⟩, [], []⟩
theorem zeroC_small : SmallC ⟨0, [], [], [], []⟩ := ⟨by simp, by simp, by simp, by simp, by simp⟩
theorem zeroF_small : SmallF zeroF := ⟨zeroC_small, zeroC_small, by simp [zeroF], by simp [zeroF]⟩

theorem opF_small {f : XFunctor} (hs : SmallF f) (h : IsFun f) : SmallF (opF f) := ⟨opC_small h.1.1.shp, opC_small h.2.1.1.shp, hs.s3, hs.s4⟩

theorem spec_OppositeFunctor_eq {f : XFunctor} (hs : SmallF f) : M.spec_OppositeFunctor f = some (if IsFun f then (opF f, 0) else (zeroF, 1)) := by
  unfold M.spec_OppositeFunctor
  rw [l06Is_eq hs]
  by_cases h : IsFun f
  · simp only [Option.bind_some, h, decide_true, if_true]
    rw [l06Op_eq hs h.1.1.shp h.2.1.1.shp]; rfl
  · simp [h, zeroF]

theorem impl_OppositeFunctor_eq {f : XFunctor} (hs : SmallF f) : M.impl_OppositeFunctor f = some (if IsFun f then (opF f, 0) else (zeroF, 1)) := by
  unfold M.impl_OppositeFunctor
  rw [isFunctor_eq hs]
  by_cases h : IsFun f
  · simp only [Option.bind_some, h, decide_true, if_true]
    rw [Functor_opposite_eq hs h.1.1.shp h.2.1.1.shp]; rfl
  · simp [h, zeroF]

theorem law_OppositeFunctor {f : XFunctor} (h : R.XFunctor f) : M.laws_FnExactOppositeFunctor f = some true := by
  unfold M.laws_FnExactOppositeFunctor
  obtain ⟨v, e, hv⟩ := szFunctor_r (n := 1048576) (by decide) (by decide) (fitsF h)
  rw [e]
  simp only [Option.bind_some, decide_eq_true_eq]
  split
  · rfl
  · have hs : SmallF f := by
      rcases hv with ⟨h1, _⟩ | ⟨_, _, h3⟩
      · exact absurd h1 ‹_›
      · exact h3
    rw [toFunctor_eq hs]
    simp only [Option.bind_some]
    rw [spec_OppositeFunctor_eq hs, impl_OppositeFunctor_eq hs]
    simp only [Option.bind_some]
    have hg : SmallF (if IsFun f then (opF f, (0 : Int)) else (zeroF, 1)).1 := by
      split
      · exact opF_small hs ‹_›
      · exact zeroF_small
    generalize (if IsFun f then (opF f, (0 : Int)) else (zeroF, 1)) = g at hg
    obtain ⟨g, w⟩ := g
    dsimp only at hg ⊢
    rw [eqFunctor_refl hg, eqFunctor_refl hs]
    obtain ⟨n1, x1, a1, b1, e1, f1, g1⟩ := mh_F hs 1 (by omega) (by omega)
    obtain ⟨n2, ⟨⟨o1, p1, p2, p3, p4⟩, ⟨o2, q1, q2, q3, q4⟩, r1, r2⟩, a2, b2, e2, f2, g2, g3⟩ := mh_F hg 1 (by omega) (by omega)
    dsimp only at g2 g3
    subst g2 g3
    simp only [Option.bind_some, bne_self_eq_false, Bool.false_eq_true, if_false, if_true, e1, e2, f2, decide_eq_true_eq]
    rw [if_neg (by omega), if_neg (by omega)]

end Go.Gx
