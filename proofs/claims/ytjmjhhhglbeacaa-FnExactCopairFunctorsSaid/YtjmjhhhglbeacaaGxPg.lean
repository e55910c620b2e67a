/- Plain laws: lists after each other; transformations: copies, marks. -/
import Derived.Test.YtjmjhhhglbeacaaGxPm
import Derived.Test.YtjmjhhhglbeacaaGxL6M
namespace Go.Gx
open Classical
set_option maxHeartbeats 1000000

def thenL (a b : List Int) : List Int := tab (a.length : Int) fun i => el b (el a i)

theorem l01Then_eq {a b : List Int} (h : Small a) (hi : In (b.length : Int) a) : M.spec_l01Then a b = some (thenL a b) := by
  apply Ret.eq
  unfold M.spec_l01Then
  refine Ret.acc (a.length : Int) (fun i s => s = tab i fun i => el b (el a i)) (by omega) (by omega) rfl ?_ ?_
  · rintro i s next hi0 hi1 rfl hn1
    dsimp only
    simp only [decide_eq_true_eq]
    rw [if_pos hi1]
    have hx := hi i hi0 hi1
    refine Ret.idx hi0 hi1 (Ret.idx hx.1 hx.2 (Ret.chk ?_ (hn1 _ (tab_succ (fun i => el b (el a i)) hi0).symm)))
    rw [tab_length]; unfold lim; simp only [List.length_cons, List.length_nil]; omega
  · rintro s next rfl
    dsimp only
    simp only [decide_eq_true_eq]
    rw [if_neg (by omega)]
    exact Ret.some rfl

theorem then2_eq {a b : List Int} (h : Small a) (hi : In (b.length : Int) a) : M.impl_then a b = some (thenL a b) := by
  apply Ret.eq
  unfold M.impl_then
  refine Ret.chk ⟨by omega, by unfold lim; omega⟩ ?_
  refine Ret.acc (a.length : Int) (fun i s => s = tab (a.length : Int) fun j => if j < i then el b (el a j) else 0) (by omega) (by omega) ?_ ?_ ?_
  · rw [rep_tab]; apply tab_congr; intro j h0 h1; rw [if_neg (by omega)]
  · rintro i s next hi0 hi1 rfl hn1
    dsimp only
    simp only [decide_eq_true_eq]
    rw [if_pos hi1]
    have hx := hi i hi0 hi1
    refine Ret.idx hi0 hi1 (Ret.idx hx.1 hx.2 (Ret.idx hi0 (by rw [tab_length]; omega) (hn1 _ ?_)))
    rw [set_tab hi0]
    apply tab_congr; intro j j0 j1
    by_cases hj : j = i
    · subst hj; rw [if_pos rfl, if_pos (by omega)]
    · rw [if_neg hj]
      by_cases hlt : j < i
      · rw [if_pos hlt, if_pos (by omega)]
      · rw [if_neg hlt, if_neg (by omega)]
  · rintro s next rfl
    dsimp only
    simp only [decide_eq_true_eq]
    rw [if_neg (by omega)]
    refine Ret.some ?_
    unfold thenL
    apply tab_congr; intro j j0 j1; rw [if_pos j1]

theorem thenL_small {a b : List Int} (h : Small a) : Small (thenL a b) := by
  unfold thenL Small
  rw [tab_length]; omega

structure SmallT (t : XTransformation) : Prop where
  s1 : SmallF t.Source
  s2 : SmallF t.Target
  s3 : Small t.Components

theorem l07Own_eq {f : XFunctor} (h : SmallF f) : M.spec_l07Own f = some f := by
  unfold M.spec_l07Own
  rw [l06Make_eq h.s1 h.s2 h.s3 h.s4]; rfl
theorem l07Make_eq {f g : XFunctor} {c : List Int} (hf : SmallF f) (hg : SmallF g) (hc : Small c) : M.spec_l07Make f g c = some ⟨f, g, c⟩ := by
  unfold M.spec_l07Make
  rw [l07Own_eq hf, l07Own_eq hg, own_eq hc]; rfl
theorem Fcopy_eq {f : XFunctor} (h : SmallF f) : M.impl_Functor_copy f = some f := by
  unfold M.impl_Functor_copy
  rw [functor_eq h.s1 h.s2 h.s3 h.s4]; rfl
theorem transformation_eq {f g : XFunctor} {c : List Int} (hf : SmallF f) (hg : SmallF g) (hc : Small c) : M.impl_transformation f g c = some ⟨f, g, c⟩ := by
  unfold M.impl_transformation
  rw [Fcopy_eq hf, Fcopy_eq hg, clone_eq hc]; rfl

theorem eqTransformation_refl {t : XTransformation} (h : SmallT t) : M.laws_eqTransformation t t = some true := by
  unfold M.laws_eqTransformation
  rw [eqFunctor_refl h.s1, eqFunctor_refl h.s2, eqInt64S_refl h.s3]; simp

theorem mh_T {t : XTransformation} (h : SmallT t) : MH 4398064336896 M.laws_markTransformation M.laws_heldTransformation
    (fun x y => y.Source.Source.Objects = x.Source.Source.Objects ∧ y.Source.Target.Objects = x.Source.Target.Objects ∧ y.Target.Source.Objects = x.Target.Source.Objects ∧ y.Target.Target.Objects = x.Target.Target.Objects) t := by
  intro k h0 h1
  obtain ⟨n1, l1, a1, b1, e1, f1, g1, g1'⟩ := mh_F h.s1 k h0 (by omega)
  obtain ⟨n2, l2, a2, b2, e2, f2, g2, g2'⟩ := mh_F h.s2 (k + n1) (by omega) (by omega)
  obtain ⟨n3, l3, a3, b3, e3, f3, _⟩ := mh_S h.s3 (k + n1 + n2) (by omega) (by omega)
  refine ⟨n1 + n2 + n3, ⟨l1, l2, l3⟩, by omega, by omega, ?_, ?_, g1, g1', g2, g2'⟩
  · unfold M.laws_markTransformation
    simp only [e1, e2, e3, Option.bind_some, Option.some.injEq, Prod.mk.injEq]
    refine ⟨by omega, ?_⟩
    rw [← g1, ← g1', ← g2, ← g2']
  · unfold M.laws_heldTransformation
    simp only [f1, f2, f3, Option.bind_some, decide_eq_true_eq]
    rw [if_neg (by omega), if_neg (by omega), if_neg (by omega)]
    simp only [Option.some.injEq]; omega

def zeroT : XTransformation := ⟨zeroF, zeroF, []⟩
theorem zeroT_small : SmallT zeroT := ⟨zeroF_small, zeroF_small, by simp [zeroT]⟩
end Go.Gx
