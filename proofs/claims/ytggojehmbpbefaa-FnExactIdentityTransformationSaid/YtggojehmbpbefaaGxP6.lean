/- The law of IdentityTransformation. -/
import Derived.Test.YtggojehmbpbefaaGxPg
namespace Go.Gx
open Classical
set_option maxHeartbeats 1000000

def selfT (f : XFunctor) : XTransformation := ⟨f, f, thenL f.Objects f.Target.Identity⟩
theorem selfT_small {f : XFunctor} (h : SmallF f) : SmallT (selfT f) := ⟨h, h, thenL_small h.s3⟩

theorem in_id {f : XFunctor} (h : IsFun f) : In (f.Target.Identity.length : Int) f.Objects := by
  intro i h0 h1
  have := h.2.2.ino i h0 h1
  have := h.2.1.1.shp.lid
  omega

theorem spec_IdentityTransformation_eq {f : XFunctor} (hs : SmallF f) : M.spec_IdentityTransformation f = some (if IsFun f then (selfT f, 0) else (zeroT, 1)) := by
  unfold M.spec_IdentityTransformation
  rw [l06Is_eq hs]
  by_cases h : IsFun f
  · simp only [Option.bind_some, h, decide_true, if_true]
    unfold M.spec_l07Self
    rw [l01Then_eq hs.s3 (in_id h)]
    simp only [Option.bind_some]
    rw [l07Make_eq hs hs (thenL_small hs.s3)]; rfl
  · simp [h, zeroT, zeroF]

theorem impl_IdentityTransformation_eq {f : XFunctor} (hs : SmallF f) : M.impl_IdentityTransformation f = some (if IsFun f then (selfT f, 0) else (zeroT, 1)) := by
  unfold M.impl_IdentityTransformation
  rw [isFunctor_eq hs]
  by_cases h : IsFun f
  · simp only [Option.bind_some, h, decide_true, if_true]
    rw [then2_eq hs.s3 (in_id h)]
    simp only [Option.bind_some]
    rw [transformation_eq hs hs (thenL_small hs.s3)]; rfl
  · simp [h, zeroT, zeroF]

theorem law_IdentityTransformation {f : XFunctor} (h : R.XFunctor f) : M.laws_FnExactIdentityTransformation f = some true := by
  unfold M.laws_FnExactIdentityTransformation
  obtain ⟨v, e, hv⟩ := szFunctor_r (n := 1048576) (by decide) (by decide) (fitsF h)
  rw [e]
  simp only [Option.bind_some, decide_eq_true_eq]
  split
  · rfl
  · have hs : SmallF f := by
      rcases hv with ⟨h1, _⟩ | ⟨_, _, h3⟩
      · exact absurd h1 ‹_›
      · exact h3
    rw [toFunctor_eq hs]
    simp only [Option.bind_some]
    rw [spec_IdentityTransformation_eq hs, impl_IdentityTransformation_eq hs]
    simp only [Option.bind_some]
    have hg : SmallT (if IsFun f then (selfT f, (0 : Int)) else (zeroT, 1)).1 := by
      split
      · exact selfT_small hs
      · exact zeroT_small
    generalize (if IsFun f then (selfT f, (0 : Int)) else (zeroT, 1)) = g at hg
    obtain ⟨g, w⟩ := g
    dsimp only at hg ⊢
    rw [eqTransformation_refl hg, eqFunctor_refl hs]
    obtain ⟨n1, x1, a1, b1, e1, f1, g1⟩ := mh_F hs 1 (by omega) (by omega)
    obtain ⟨n2, ⟨⟨⟨o1, p1, p2, p3, p4⟩, ⟨o2, q1, q2, q3, q4⟩, r1, r2⟩, ⟨⟨o3, p5, p6, p7, p8⟩, ⟨o4, q5, q6, q7, q8⟩, r3, r4⟩, c⟩, a2, b2, e2, f2, g2, g3, g4, g5⟩ := mh_T hg 1 (by omega) (by omega)
    dsimp only at g2 g3 g4 g5
    subst g2 g3 g4 g5
    simp only [Option.bind_some, bne_self_eq_false, Bool.false_eq_true, if_false, if_true, e1, e2, f2, decide_eq_true_eq]
    rw [if_neg (by omega), if_neg (by omega)]

end Go.Gx
