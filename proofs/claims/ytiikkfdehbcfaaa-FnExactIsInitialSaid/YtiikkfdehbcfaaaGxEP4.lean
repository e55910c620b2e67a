/- Laid together: part 4. -/
import Derived.Test.YtiikkfdehbcfaaaGxEP0
import Derived.Test.YtiikkfdehbcfaaaGxEM0
import Derived.Test.YtiikkfdehbcfaaaGxEM2
import Derived.Test.YtiikkfdehbcfaaaGxEP1
import Derived.Test.YtiikkfdehbcfaaaGxEP2
/- Plain laws: arrows out of an object. -/
namespace Go.Gx
open Classical
set_option maxHeartbeats 1000000

theorem outOf_eq {c : XCategory} (h : Small c.From) (x : Int) : M.impl_Category_outOf c x = some (fil (c.From.length : Int) fun s => el c.From s == x) := by
  apply Ret.eq
  unfold M.impl_Category_outOf
  refine Ret.acc (c.From.length : Int) (fun i a => a = fil i fun s => el c.From s == x) (by omega) (by omega) rfl ?_ ?_
  · rintro i a next hi0 hi1 rfl hn1
    have hle := fil_length_le i fun s => el c.From s == x
    dsimp only
    simp only [decide_eq_true_eq, beq_iff_eq]
    (repeat' (first | with_reducible refine Ret.pos ‹_› ?_ | with_reducible refine Ret.neg ‹_› ?_ | with_reducible refine Ret.neg (Int.lt_irrefl _) ?_ | with_reducible refine Ret.ite (fun _ => ?_) (fun _ => ?_) | with_reducible refine Ret.idx ?_ ?_ ?_ | with_reducible refine Ret.chk ?_ ?_ | with_reducible refine hn3 ?_ | with_reducible refine hn2 ?_ | with_reducible refine hn1 ?_ | with_reducible refine hn3 _ ?_ | with_reducible refine hn2 _ ?_ | with_reducible refine hn1 _ ?_ | with_reducible refine Ret.some ?_))
    · exact hi0
    · exact hi1
    · unfold lim; simp only [List.length_cons, List.length_nil]; omega
    · rw [fil_succ _ hi0]; simp [*]
    · rw [fil_succ _ hi0]; simp [*]
  · rintro a next rfl
    dsimp only
    simp only [decide_eq_true_eq]
    rw [if_neg (by omega)]
    exact Ret.some rfl

end Go.Gx

/- Plain laws: adjunctions. -/
namespace Go.Gx
open Classical
set_option maxHeartbeats 2000000

structure SmallA (a : XAdjunction) : Prop where
  s1 : SmallF a.Left
  s2 : SmallF a.Right
  s3 : Small a.Unit
  s4 : Small a.Counit
structure FitsA (a : XAdjunction) : Prop where
  f1 : FitsF a.Left
  f2 : FitsF a.Right
  f3 : Fits a.Unit
  f4 : Fits a.Counit
/-- All of an adjunction but its triangles. -/
structure Adj0 (a : XAdjunction) : Prop where
  f : IsFun a.Left
  g : IsFun a.Right
  e1 : a.Left.Target = a.Right.Source
  e2 : a.Right.Target = a.Left.Source
  u : IsNat ⟨idF a.Left.Source, thenF a.Left a.Right, a.Unit⟩
  k : IsNat ⟨thenF a.Right a.Left, idF a.Left.Target, a.Counit⟩

theorem Adj0.unit {a : XAdjunction} (h : Adj0 a) {x : Int} (h0 : 0 ≤ x) (h1 : x < a.Left.Source.Objects) :
    x < (a.Unit.length : Int) ∧ (0 ≤ el a.Unit x ∧ el a.Unit x < (a.Left.Source.From.length : Int)) ∧ el a.Left.Source.From (el a.Unit x) = x ∧ el a.Left.Source.To (el a.Unit x) = el a.Right.Objects (el a.Left.Objects x) := by
  obtain ⟨u1, u2, u3⟩ := h.u.1.2.2.2
  have lo := h.f.2.2.lo
  dsimp only [idF, thenF] at u1 u2 u3
  have q := u3 x h0 (by omega)
  rw [el_tab h0 h1, el_thenL h0 (by omega)] at q
  exact ⟨by omega, u2 x h0 (by omega), q.1, q.2⟩
theorem Adj0.counit {a : XAdjunction} (h : Adj0 a) {y : Int} (h0 : 0 ≤ y) (h1 : y < a.Left.Target.Objects) :
    y < (a.Counit.length : Int) ∧ (0 ≤ el a.Counit y ∧ el a.Counit y < (a.Left.Target.From.length : Int)) ∧ el a.Left.Target.From (el a.Counit y) = el a.Left.Objects (el a.Right.Objects y) ∧ el a.Left.Target.To (el a.Counit y) = y := by
  obtain ⟨u1, u2, u3⟩ := h.k.1.2.2.2
  have lo := h.g.2.2.lo
  have e := h.e1
  dsimp only [idF, thenF] at u1 u2 u3
  rw [← e] at u1 lo
  have q := u3 y h0 (by omega)
  rw [el_tab h0 h1, el_thenL h0 (by omega)] at q
  exact ⟨by omega, u2 y h0 (by omega), q.1, q.2⟩
theorem Adj0.lob {a : XAdjunction} (h : Adj0 a) {x : Int} (h0 : 0 ≤ x) (h1 : x < a.Left.Source.Objects) :
    x < (a.Left.Objects.length : Int) ∧ 0 ≤ el a.Left.Objects x ∧ el a.Left.Objects x < a.Left.Target.Objects := by
  have lo := h.f.2.2.lo
  exact ⟨by omega, h.f.2.2.ino x h0 (by omega)⟩
theorem Adj0.rob {a : XAdjunction} (h : Adj0 a) {y : Int} (h0 : 0 ≤ y) (h1 : y < a.Left.Target.Objects) :
    y < (a.Right.Objects.length : Int) ∧ 0 ≤ el a.Right.Objects y ∧ el a.Right.Objects y < a.Left.Source.Objects := by
  have lo := h.g.2.2.lo
  have io := h.g.2.2.ino
  rw [← h.e1] at lo
  rw [h.e2] at io
  exact ⟨by omega, io y h0 (by omega)⟩
theorem Adj0.larr {a : XAdjunction} (h : Adj0 a) {f : Int} (h0 : 0 ≤ f) (h1 : f < (a.Left.Source.From.length : Int)) :
    f < (a.Left.Arrows.length : Int) ∧ (0 ≤ el a.Left.Arrows f ∧ el a.Left.Arrows f < (a.Left.Target.From.length : Int)) ∧ el a.Left.Target.From (el a.Left.Arrows f) = el a.Left.Objects (el a.Left.Source.From f) ∧ el a.Left.Target.To (el a.Left.Arrows f) = el a.Left.Objects (el a.Left.Source.To f) := by
  have la := h.f.2.2.la
  exact ⟨by omega, h.f.2.2.ina f h0 (by omega), h.f.2.2.afrom f h0 h1, h.f.2.2.ato f h0 h1⟩
theorem Adj0.rarr {a : XAdjunction} (h : Adj0 a) {g : Int} (h0 : 0 ≤ g) (h1 : g < (a.Left.Target.From.length : Int)) :
    g < (a.Right.Arrows.length : Int) ∧ (0 ≤ el a.Right.Arrows g ∧ el a.Right.Arrows g < (a.Left.Source.From.length : Int)) ∧ el a.Left.Source.From (el a.Right.Arrows g) = el a.Right.Objects (el a.Left.Target.From g) ∧ el a.Left.Source.To (el a.Right.Arrows g) = el a.Right.Objects (el a.Left.Target.To g) := by
  have la := h.g.2.2.la
  have ia := h.g.2.2.ina
  have af := h.g.2.2.afrom g h0
  have at' := h.g.2.2.ato g h0
  rw [← h.e1] at la af at'
  rw [h.e2] at ia af at'
  exact ⟨by omega, ia g h0 (by omega), af h1, at' h1⟩

theorem Adj0.au {a : XAdjunction} (h : Adj0 a) {x : Int} (h0 : 0 ≤ x) (h1 : x < a.Left.Source.Objects) : Ar a.Left.Source (el a.Unit x) x (el a.Right.Objects (el a.Left.Objects x)) :=
  have u := h.unit h0 h1
  ⟨u.2.1.1, u.2.1.2, u.2.2.1, u.2.2.2⟩
theorem Adj0.ak {a : XAdjunction} (h : Adj0 a) {y : Int} (h0 : 0 ≤ y) (h1 : y < a.Left.Target.Objects) : Ar a.Left.Target (el a.Counit y) (el a.Left.Objects (el a.Right.Objects y)) y :=
  have u := h.counit h0 h1
  ⟨u.2.1.1, u.2.1.2, u.2.2.1, u.2.2.2⟩
theorem Adj0.lm {a : XAdjunction} (h : Adj0 a) {f x y : Int} (r : Ar a.Left.Source f x y) : Ar a.Left.Target (el a.Left.Arrows f) (el a.Left.Objects x) (el a.Left.Objects y) := by
  have u := h.larr r.p r.q
  exact ⟨u.2.1.1, u.2.1.2, by rw [u.2.2.1, r.s], by rw [u.2.2.2, r.t]⟩
theorem Adj0.rm {a : XAdjunction} (h : Adj0 a) {f x y : Int} (r : Ar a.Left.Target f x y) : Ar a.Left.Source (el a.Right.Arrows f) (el a.Right.Objects x) (el a.Right.Objects y) := by
  have u := h.rarr r.p r.q
  exact ⟨u.2.1.1, u.2.1.2, by rw [u.2.2.1, r.s], by rw [u.2.2.2, r.t]⟩
theorem Adj0.a1 {a : XAdjunction} (h : Adj0 a) {x : Int} (h0 : 0 ≤ x) (h1 : x < a.Left.Source.Objects) :
    Ar a.Left.Target (cmp a.Left.Target (el a.Left.Arrows (el a.Unit x)) (el a.Counit (el a.Left.Objects x))) (el a.Left.Objects x) (el a.Left.Objects x) :=
  have o := h.lob h0 h1
  (h.lm (h.au h0 h1)).comp h.f.2.1.1.shp (h.ak o.2.1 o.2.2)
theorem Adj0.a2 {a : XAdjunction} (h : Adj0 a) {y : Int} (h0 : 0 ≤ y) (h1 : y < a.Left.Target.Objects) :
    Ar a.Left.Source (cmp a.Left.Source (el a.Unit (el a.Right.Objects y)) (el a.Right.Arrows (el a.Counit y))) (el a.Right.Objects y) (el a.Right.Objects y) :=
  have o := h.rob h0 h1
  (h.au o.2.1 o.2.2).comp h.f.1.1.shp (h.rm (h.ak h0 h1))

end Go.Gx

/- Plain laws: right adjoints, from universal arrows. -/
namespace Go.Gx
open Classical
set_option maxHeartbeats 1000000

end Go.Gx

/- Plain laws: opposites. -/
namespace Go.Gx
open Classical
set_option maxHeartbeats 1000000

def opC (c : XCategory) : XCategory := ⟨c.Objects, c.To, c.From, c.Identity, tab (c.From.length : Int) fun i => tab (c.From.length : Int) fun j => cmp c j i⟩
def opF (f : XFunctor) : XFunctor := ⟨opC f.Source, opC f.Target, f.Objects, f.Arrows⟩

theorem opC_small {c : XCategory} (h : Shp c) : SmallC (opC c) := by
  obtain ⟨s1, s2, s3, s4, s5⟩ := h.small
  have hm := h.m40
  refine ⟨s2, s1, s3, ?_, ?_⟩
  · simp only [opC, Small, tab_length]; omega
  · intro r hr
    obtain ⟨i, h0, h1, rfl⟩ := mem_el hr
    simp only [opC, tab_length] at h1
    simp only [opC, Small]
    rw [el_tab h0 (by omega), tab_length]; omega

theorem l03Op_eq {c : XCategory} (h : Shp c) : M.spec_l03Op c = some (opC c) := by
  apply Ret.eq
  obtain ⟨s1, s2, s3, s4, s5⟩ := h.small
  unfold M.spec_l03Op
  refine Ret.call (own_eq s2) (Ret.call (own_eq s1) (Ret.call (own_eq s3) ?_))
  have hm := h.m40
  have hc := h.lco
  refine Ret.acc (c.From.length : Int) (fun i a => a = tab i fun i => tab (c.From.length : Int) fun j => cmp c j i) (by omega) (by omega) rfl ?_ ?_
  · rintro i a next hi0 hi1 rfl hn1
    dsimp only
    simp only [decide_eq_true_eq]
    rw [if_pos hi1]
    refine Ret.acc (c.From.length : Int) (fun j a => a = tab j fun j => cmp c j i) (by omega) (by omega) rfl ?_ ?_
    · rintro j a next' hj0 hj1 rfl hn2
      dsimp only
      have hr := h.row j hj0 hj1
      (repeat' (first | with_reducible refine Ret.pos ‹_› ?_ | with_reducible refine Ret.neg ‹_› ?_ | with_reducible refine Ret.neg (Int.lt_irrefl _) ?_ | with_reducible refine Ret.ite (fun _ => ?_) (fun _ => ?_) | with_reducible refine Ret.idx ?_ ?_ ?_ | with_reducible refine Ret.chk ?_ ?_ | with_reducible refine hn3 ?_ | with_reducible refine hn2 ?_ | with_reducible refine hn1 ?_ | with_reducible refine hn3 _ ?_ | with_reducible refine hn2 _ ?_ | with_reducible refine hn1 _ ?_ | with_reducible refine Ret.some ?_))
      · exact hj0
      · omega
      · exact hi0
      · omega
      · rw [tab_length]; unfold lim; simp; omega
      · exact (tab_succ _ hj0).symm
    · rintro a next' rfl
      dsimp only
      rw [if_neg (by omega)]
      refine Ret.chk (by rw [tab_length]; unfold lim; omega) (hn1 _ (tab_succ (fun i => tab (c.From.length : Int) fun j => cmp c j i) hi0).symm)
  · rintro a next rfl
    dsimp only
    simp only [decide_eq_true_eq]
    rw [if_neg (by omega)]
    exact Ret.some rfl

theorem l06Op_eq {f : XFunctor} (h : SmallF f) (hS : Shp f.Source) (hT : Shp f.Target) : M.spec_l06Op f = some (opF f) := by
  unfold M.spec_l06Op
  rw [l03Op_eq hS, l03Op_eq hT]
  show (M.spec_l06Make _ _ _ _).bind _ = _
  rw [l06Make_eq (opC_small hS) (opC_small hT) h.s3 h.s4]; rfl

theorem opposite_eq {c : XCategory} (h : Shp c) : M.impl_opposite c = some (opC c) := by
  obtain ⟨s1, s2, s3, s4, s5⟩ := h.small
  have hm := h.m40
  have ht := h.lto
  have hc := h.lco
  unfold M.impl_opposite
  rw [clone_eq s1, clone_eq s2, clone_eq s3]
  simp only [Option.bind_some]
  rw [table_eq (v := fun i j => cmp c j i)]
  · simp only [Option.bind_some, opC, ht, Option.some.injEq, XCategory.mk.injEq, true_and]
    apply tab_congr; intro i hi0 hi1
    apply tab_congr; intro j hj0 hj1
    split
    · rfl
    · rename_i hne
      exact (h.no j i hj0 hj1 hi0 hi1 (fun e => hne e.symm)).symm
  · show (c.To.length : Int) ≤ 40
    omega
  · show (c.From.length : Int) = (c.To.length : Int)
    omega
  · intro i j hi0 hi1 hj0 hj1 _
    unfold M.impl_opposite_1
    have hi2 : i < (c.From.length : Int) := by
      have : i < (c.To.length : Int) := hi1
      omega
    have hj2 : j < (c.From.length : Int) := by
      have : j < (c.To.length : Int) := hj1
      omega
    have := h.row j hj0 hj2
    rw [then_eq hj0 (by omega) hi0 (by omega)]; rfl

theorem Functor_opposite_eq {f : XFunctor} (h : SmallF f) (hS : Shp f.Source) (hT : Shp f.Target) : M.impl_Functor_opposite f = some (opF f) := by
  unfold M.impl_Functor_opposite
  rw [opposite_eq hS, opposite_eq hT]
  show (M.impl_functor _ _ _ _).bind _ = _
  rw [functor_eq (opC_small hS) (opC_small hT) h.s3 h.s4]; rfl

end Go.Gx

/- The law of PairsProfunctor. -/
namespace Go.Gx
open Classical
set_option maxHeartbeats 1000000

theorem opC_cmp {c : XCategory} {i j : Int} (i0 : 0 ≤ i) (i1 : i < (c.From.length : Int)) (j0 : 0 ≤ j) (j1 : j < (c.From.length : Int)) : cmp (opC c) i j = cmp c j i := by
  show el (el (tab (c.From.length : Int) fun i => tab (c.From.length : Int) fun j => cmp c j i) i) j = _
  rw [el_tab i0 i1, el_tab j0 j1]
theorem opC_shp {c : XCategory} (h : Shp c) : Shp (opC c) := by
  have lto := h.lto
  have e : ((opC c).From.length : Int) = (c.From.length : Int) := lto
  refine ⟨h.n0, h.n8, by rw [e]; exact h.m40, e.symm, h.lid, ?_, fun i i0 i1 => h.to_in i i0 (by omega), fun i i0 i1 => h.from_in i i0 (by omega), fun i i0 i1 => ?_, h.id_to, h.id_from, fun i i0 i1 => ?_, ?_, ?_, ?_, ?_⟩
  · rw [e]
    show ((tab (c.From.length : Int) fun i => tab (c.From.length : Int) fun j => cmp c j i).length : Int) = _
    rw [tab_length]; omega
  · have := h.id_in i i0 i1
    exact ⟨this.1, by rw [e]; exact this.2⟩
  · rw [e]
    show ((el (tab (c.From.length : Int) fun i => tab (c.From.length : Int) fun j => cmp c j i) i).length : Int) = _
    rw [el_tab i0 (by omega), tab_length]; omega
  · intro i j i0 i1 j0 j1 hne
    rw [opC_cmp i0 (by omega) j0 (by omega)]
    exact h.no j i j0 (by omega) i0 (by omega) (fun x => hne x.symm)
  · intro i j i0 i1 j0 j1 he
    rw [opC_cmp i0 (by omega) j0 (by omega), e]
    exact h.yes j i j0 (by omega) i0 (by omega) he.symm
  · intro i j i0 i1 j0 j1 he
    rw [opC_cmp i0 (by omega) j0 (by omega)]
    exact h.cto j i j0 (by omega) i0 (by omega) he.symm
  · intro i j i0 i1 j0 j1 he
    rw [opC_cmp i0 (by omega) j0 (by omega)]
    exact h.cfrom j i j0 (by omega) i0 (by omega) he.symm

end Go.Gx

/- The law of LeftAdjointOf. -/
namespace Go.Gx
open Classical
set_option maxHeartbeats 1000000

theorem opC_nofault {c : XCategory} (h : IsCat c) : NoFault (opC c) := by
  have hS := h.1.shp
  have lto := hS.lto
  have eF : ((opC c).From.length : Int) = (c.From.length : Int) := lto
  refine ⟨fun f f0 f1 => ?_, fun f g k f0 f1 g0 g1 k0 k1 e1 e2 => ?_⟩
  · have f1' : f < (c.From.length : Int) := by omega
    have a := hS.to_in f f0 f1'
    have b := hS.from_in f f0 f1'
    have ia := hS.id_in _ a.1 a.2
    have ib := hS.id_in _ b.1 b.2
    have q := h.2.1 f f0 f1'
    exact ⟨by rw [show (opC c).From = c.To from rfl, show (opC c).Identity = c.Identity from rfl, opC_cmp ia.1 ia.2 f0 f1']; exact q.2, by rw [show (opC c).To = c.From from rfl, show (opC c).Identity = c.Identity from rfl, opC_cmp f0 f1' ib.1 ib.2]; exact q.1⟩
  · have f1' : f < (c.From.length : Int) := by omega
    have g1' : g < (c.From.length : Int) := by omega
    have k1' : k < (c.From.length : Int) := by omega
    have e1 : el c.From f = el c.To g := e1
    have e2 : el c.From g = el c.To k := e2
    have y1 := hS.yes g f g0 g1' f0 f1' e1.symm
    have y2 := hS.yes k g k0 k1' g0 g1' e2.symm
    rw [opC_cmp f0 f1' g0 g1', opC_cmp g0 g1' k0 k1', opC_cmp y1.1 y1.2 k0 k1', opC_cmp f0 f1' y2.1 y2.2]
    exact (h.2.2 k g f k0 k1' g0 g1' f0 f1' e2.symm e1.symm).symm

theorem Shp.shape {c : XCategory} (h : Shp c) : Shape c := by
  refine ⟨h.n0, h.n8, h.m40, h.lto, h.lid, h.lco, fun i i0 i1 => h.from_in i i0 i1, fun i i0 i1 => h.to_in i i0 (by have := h.lto; omega), fun i i0 i1 => h.id_in i i0 (by have := h.lid; omega), fun i i0 i1 => ⟨h.id_from i i0 i1, h.id_to i i0 i1⟩, fun i i0 i1 => ⟨h.row i i0 i1, fun j j0 j1 => ⟨fun e => h.no i j i0 i1 j0 j1 e, fun e => ?_⟩⟩⟩
  have y := h.yes i j i0 i1 j0 j1 e
  exact ⟨y.1, y.2, h.cfrom i j i0 i1 j0 j1 e, h.cto i j i0 i1 j0 j1 e⟩
theorem opC_cat {c : XCategory} (h : IsCat c) : IsCat (opC c) := ⟨(opC_shp h.1.shp).shape, opC_nofault h⟩
theorem opF_fun {f : XFunctor} (h : IsFun f) : IsFun (opF f) := by
  obtain ⟨hS, hT, hF⟩ := h
  have hs := hS.1.shp
  have ht := hT.1.shp
  have slt := hs.lto
  have tlt := ht.lto
  have la := hF.la
  have eS : ((opC f.Source).From.length : Int) = (f.Source.From.length : Int) := slt
  have eT : ((opC f.Target).From.length : Int) = (f.Target.From.length : Int) := tlt
  refine ⟨opC_cat hS, opC_cat hT, hF.lo, ?_, hF.ino, ?_, fun a a0 a1 => hF.ato a a0 (by show a < (f.Source.From.length : Int); have a1 : a < ((opC f.Source).From.length : Int) := a1; omega), fun a a0 a1 => hF.afrom a a0 (by have a1 : a < ((opC f.Source).From.length : Int) := a1; omega), hF.aid, fun a b a0 a1 b0 b1 e => ?_⟩
  · show (f.Arrows.length : Int) = ((opC f.Source).From.length : Int)
    omega
  · intro i i0 i1
    have := hF.ina i i0 i1
    exact ⟨this.1, by show el f.Arrows i < ((opC f.Target).From.length : Int); omega⟩
  · have a1 : a < (f.Source.From.length : Int) := by have a1 : a < ((opC f.Source).From.length : Int) := a1; omega
    have b1 : b < (f.Source.From.length : Int) := by have b1 : b < ((opC f.Source).From.length : Int) := b1; omega
    have ia := hF.ina a a0 (by omega)
    have ib := hF.ina b b0 (by omega)
    have e : el f.Source.From a = el f.Source.To b := e
    show el f.Arrows (cmp (opC f.Source) a b) = cmp (opC f.Target) (el f.Arrows a) (el f.Arrows b)
    rw [opC_cmp a0 a1 b0 b1, opC_cmp ia.1 ia.2 ib.1 ib.2]
    exact hF.acmp b a b0 b1 a0 a1 e.symm

theorem opF_small {f : XFunctor} (sf : SmallF f) (h : IsFun f) : SmallF (opF f) := ⟨opC_small h.1.1.shp, opC_small h.2.1.1.shp, sf.s3, sf.s4⟩

end Go.Gx

/- The law of IsInitial. -/
namespace Go.Gx
open Classical
set_option maxHeartbeats 1000000

/-! ### lists one behind the other -/
def catL {α : Type} (n : Int) (H : Int → List α) : List α := (tab n H).flatten
theorem catL_succ {α : Type} {i : Int} (H : Int → List α) (h : 0 ≤ i) : catL (i + 1) H = catL i H ++ H i := by
  unfold catL; rw [tab_succ H h]; simp
theorem catL_map {α β : Type} (n : Int) (H : Int → List α) (g : α → β) : (catL n H).map g = catL n fun i => (H i).map g := by
  unfold catL tab
  rw [List.map_flatten, List.map_map]; rfl
theorem catL_len {α : Type} {H : Int → List α} {b : Nat} (hb : ∀ i, (H i).length ≤ b) : ∀ k : Nat, (catL (k : Int) H).length ≤ b * k
  | 0 => by simp [catL]
  | k + 1 => by
    rw [show ((k + 1 : Nat) : Int) = (k : Int) + 1 by omega, catL_succ H (by omega), List.length_append]
    have := catL_len hb k
    have := hb (k : Int)
    rw [Nat.mul_succ]; omega
theorem catL_mem {α : Type} {n : Int} {H : Int → List α} {x : α} : x ∈ catL n H ↔ ∃ i, 0 ≤ i ∧ i < n ∧ x ∈ H i := by
  unfold catL tab
  rw [List.mem_flatten]
  constructor
  · rintro ⟨l, hl, hx⟩
    rw [List.mem_map] at hl
    obtain ⟨k, hk, rfl⟩ := hl
    rw [List.mem_range] at hk
    exact ⟨(k : Int), by omega, by omega, hx⟩
  · rintro ⟨i, i0, i1, hx⟩
    exact ⟨H i, List.mem_map.2 ⟨i.toNat, List.mem_range.2 (by omega), by rw [show ((i.toNat : Nat) : Int) = i by omega]⟩, hx⟩

/-- A loop in a loop that pushes F i of each entry of L i. -/
theorem cat_loop2 {α ρ : Type} {n : Int} (h0 : 0 ≤ n) (hf : n ≤ 1048576) {L : Int → List Int} {F : Int → Int → α} {step : List α × Int → (List α × Int → Option ρ) → Option ρ} {Q : ρ → Prop}
    (hgo : ∀ i s next, 0 ≤ i → i < n → s = catL i (fun i => (L i).map (F i)) → (∀ s', s' = s ++ (L i).map (F i) → Ret (next (s', IntKind.i64.wrap (i + 1))) Q) → Ret (step (s, i) next) Q)
    (hend : ∀ next, Ret (step (catL n fun i => (L i).map (F i), n) next) Q) : Ret (iter step fuel (([] : List α), 0)) Q := by
  refine Ret.acc n (fun i s => s = catL i fun i => (L i).map (F i)) h0 (by omega) rfl ?_ ?_
  · rintro i s next i0 i1 rfl hn
    exact hgo i _ next i0 i1 rfl fun s' h => hn s' (by rw [h, catL_succ _ i0])
  · rintro s next rfl
    exact hend next
theorem cat_inner {α ρ : Type} {l : List Int} (hl : (l.length : Int) ≤ 1048576) {base : List α} {F : Int → α} {step : List α × Int → (List α × Int → Option ρ) → Option ρ} {Q : ρ → Prop}
    (hgo : ∀ j s next, 0 ≤ j → j < (l.length : Int) → s.length = base.length + j.toNat → (∀ s', s' = s ++ [F (el l j)] → Ret (next (s', IntKind.i64.wrap (j + 1))) Q) → Ret (step (s, j) next) Q)
    (hend : ∀ next, Ret (step (base ++ l.map F, (l.length : Int)) next) Q) : Ret (iter step fuel (base, 0)) Q := by
  refine Ret.acc (l.length : Int) (fun j s => s = base ++ (l.take j.toNat).map F) (by omega) (by omega) (by simp) ?_ ?_
  · rintro j s next j0 j1 rfl hn
    refine hgo j _ next j0 j1 ?_ fun s' h => hn s' ?_
    · rw [List.length_append, List.length_map, List.length_take]; omega
    · rw [h, take_succ_el j0 j1, List.map_append, List.append_assoc]; rfl
  · rintro s next rfl
    have := hend next
    simpa using this

/-! ### how many classes there are -/
theorem one_class {l : List Int} (sl : Small l) : cnt l (l.length : Int) = 1 ↔ 0 < l.length ∧ ∀ i, 0 ≤ i → i < (l.length : Int) → el (nrm l) i = 0 := by
  have hN := cnt_le (l := l) (i := (l.length : Int)) (by omega)
  constructor
  · intro h
    refine ⟨by omega, fun i i0 i1 => ?_⟩
    have f := first_spec sl i0 i1
    have g0 := cnt_le (l := l) f.1.1
    have d := cnt_lt (l := l) (j := (l.length : Int)) f.1.1 (by omega) (ldr_first sl i0 i1)
    rw [nrm_el i0 i1]; omega
  · rintro ⟨h0, h⟩
    have l0 : ldr l 0 = true := (ldr_iff sl (by omega) (by omega)).2 fun j j0 j1 => by omega
    have d := cnt_lt (l := l) (i := 0) (j := (l.length : Int)) (by omega) (by omega) l0
    rw [cnt_zero] at d
    by_cases e : cnt l (l.length : Int) = 1
    · exact e
    · obtain ⟨k, ⟨k0, k1⟩, hk, hv⟩ : ∃ k, (0 ≤ k ∧ k < (l.length : Int)) ∧ ldr l k = true ∧ cnt l k = 1 := by
        unfold Small at sl
        have L : ((fil (l.length : Int) (ldr l)).length : Int) = cnt l (l.length : Int) := rfl
        have hm := el_mem (l := fil (l.length : Int) (ldr l)) (i := 1) (by omega) (by omega)
        have h := fil_mem.1 hm
        refine ⟨_, ⟨h.1, h.2.1⟩, h.2.2, ?_⟩
        have e := indexL_el (l := fil (l.length : Int) (ldr l)) (by have := fil_length_le (l.length : Int) (ldr l); unfold Small; omega) (fil_nodup _ _) (i := 1) (by omega) (by omega)
        rw [fil_place (ldr l) h.1 h.2.1 h.2.2 (by omega)] at e
        exact e
      have := h k k0 k1
      have ek : indexL l (el l k) = k := by unfold ldr at hk; exact beq_iff_eq.1 hk
      rw [nrm_el k0 k1, ek, hv] at this
      omega

/-! ### the category with one arrow -/
def oneC : XCategory := ⟨1, [0], [0], [0], [[0]]⟩
theorem oneC_small : SmallC oneC := by refine ⟨?_, ?_, ?_, ?_, ?_⟩ <;> simp [oneC, Small]
theorem l09One_eq : M.spec_l09One = some oneC := by
  unfold M.spec_l09One M.spec_l03Poset
  rfl
theorem l06Constant_eq {a c : XCategory} {y : Int} (sa : SmallC a) (sc : SmallC c) (a0 : 0 ≤ a.Objects) (a1 : a.Objects ≤ 1048576) (y0 : 0 ≤ y) (y1 : y < (c.Identity.length : Int)) :
    M.spec_l06Constant a c y = some ⟨a, c, tab a.Objects fun _ => y, tab (a.From.length : Int) fun _ => el c.Identity y⟩ := by
  apply Ret.eq
  have h1 := sa.s1
  unfold Small at h1
  unfold M.spec_l06Constant
  refine Ret.acc a.Objects (fun i s => s = tab i fun _ => y) a0 (by omega) rfl ?_ ?_
  · rintro i s next i0 i1 rfl hn
    have L : (((tab i fun _ : Int => y).length : Nat) : Int) = i := by rw [tab_length]; omega
    dsimp only
    rw [if_pos (decide_eq_true i1)]
    exact Ret.chk (by unfold lim; simp only [List.length_cons, List.length_nil]; omega) (hn _ (tab_succ (fun _ => y) i0).symm)
  rintro s next rfl
  dsimp only
  rw [if_neg (by simp)]
  refine Ret.acc (a.From.length : Int) (fun i s => s = tab i fun _ => el c.Identity y) (by omega) (by omega) rfl ?_ ?_
  · rintro i s next i0 i1 rfl hn
    have L : (((tab i fun _ : Int => el c.Identity y).length : Nat) : Int) = i := by rw [tab_length]; omega
    dsimp only
    rw [if_pos (decide_eq_true i1)]
    exact Ret.idx y0 y1 (Ret.chk (by unfold lim; simp only [List.length_cons, List.length_nil]; omega) (hn _ (tab_succ (fun _ => el c.Identity y) i0).symm))
  · rintro s next rfl
    have L : (((tab a.Objects fun _ : Int => y).length : Nat) : Int) = a.Objects := by rw [tab_length]; omega
    have L2 : (((tab (a.From.length : Int) fun _ : Int => el c.Identity y).length : Nat) : Int) = (a.From.length : Int) := by rw [tab_length]; omega
    dsimp only
    rw [if_neg (by simp)]
    refine Ret.bindId (Ret.of (l06Make_eq sa sc (by unfold Small; omega) (by unfold Small; omega)) rfl)

/-! ### the objects under x -/
section
variable {G : XFunctor}
def hmL (G : XFunctor) (x b : Int) : List Int := homL G.Target x (el G.Objects b)
/-- The arrows from x to images, with their objects. -/
def unL (G : XFunctor) (x : Int) : List (Int × Int) := catL G.Source.Objects fun b => (hmL G x b).map fun h => (b, h)
abbrev ob (G : XFunctor) (x s : Int) : Int := (el (unL G x) s).1
abbrev ar (G : XFunctor) (x s : Int) : Int := (el (unL G x) s).2

theorem hmL_le (h : IsFun G) (x b : Int) : ((hmL G x b).length : Int) ≤ 40 := homL_len h.2.1.1.shp _ _
theorem unL_len (h : IsFun G) (x : Int) : ((unL G x).length : Int) ≤ 320 := by
  have n0 := h.1.1.shp.n0
  have n8 := h.1.1.shp.n8
  have := catL_len (H := fun b => (hmL G x b).map fun h => (b, h)) (b := 40) (fun i => by rw [List.length_map]; have := hmL_le h x i; omega) G.Source.Objects.toNat
  rw [show ((G.Source.Objects.toNat : Nat) : Int) = G.Source.Objects by omega] at this
  unfold unL
  omega
theorem unL_map {α : Type} (x : Int) (F : Int → Int → α) : (catL G.Source.Objects fun b => (hmL G x b).map (F b)) = (unL G x).map fun q => F q.1 q.2 := by
  unfold unL
  rw [catL_map]
  simp only [List.map_map]
  rfl
theorem unL_mem {x b k : Int} : (b, k) ∈ unL G x ↔ (0 ≤ b ∧ b < G.Source.Objects) ∧ k ∈ hmL G x b := by
  unfold unL
  rw [catL_mem]
  constructor
  · rintro ⟨i, i0, i1, hm⟩
    obtain ⟨q, hq, e⟩ := List.mem_map.1 hm
    obtain ⟨rfl, rfl⟩ := Prod.mk.inj e
    exact ⟨⟨i0, i1⟩, hq⟩
  · rintro ⟨⟨b0, b1⟩, hk⟩
    exact ⟨b, b0, b1, List.mem_map.2 ⟨k, hk, rfl⟩⟩
theorem unL_at {x s : Int} (s0 : 0 ≤ s) (s1 : s < ((unL G x).length : Int)) : (0 ≤ ob G x s ∧ ob G x s < G.Source.Objects) ∧ Ar G.Target (ar G x s) x (el G.Objects (ob G x s)) := by
  have hm : (ob G x s, ar G x s) ∈ unL G x := el_mem s0 s1
  have h := unL_mem.1 hm
  have hk := homL_mem.1 h.2
  exact ⟨h.1, hk.1, hk.2.1, hk.2.2.1, hk.2.2.2⟩
theorem unL_nodup (x : Int) : (unL G x).Nodup := by
  unfold unL catL List.Nodup
  rw [List.pairwise_flatten]
  constructor
  · intro l hl
    obtain ⟨b, hb0, hb1, rfl⟩ := mem_el hl
    rw [tab_length] at hb1
    rw [el_tab hb0 (by omega), List.pairwise_map]
    have := homL_nodup G.Target x (el G.Objects b)
    exact List.Pairwise.imp (fun h e => h (Prod.mk.inj e).2) this
  · unfold tab
    rw [List.pairwise_map]
    refine List.Pairwise.imp ?_ (List.pairwise_lt_range)
    intro i j hij a ha b hb e
    obtain ⟨p, _, rfl⟩ := List.mem_map.1 ha
    obtain ⟨q, _, rfl⟩ := List.mem_map.1 hb
    have := (Prod.mk.inj e).1
    omega
theorem el_getG {α : Type} [Inhabited α] {l : List α} {k : Nat} (h : k < l.length) : el l (k : Int) = l[k] := by
  unfold el; simp [h]
theorem unL_inj {x s t : Int} (s0 : 0 ≤ s) (s1 : s < ((unL G x).length : Int)) (t0 : 0 ≤ t) (t1 : t < ((unL G x).length : Int)) (e : el (unL G x) s = el (unL G x) t) : s = t := by
  have hp := List.pairwise_iff_getElem.1 (show List.Pairwise (fun a b => a ≠ b) (unL G x) from unL_nodup x)
  have es := el_getG (l := unL G x) (k := s.toNat) (by omega)
  have et := el_getG (l := unL G x) (k := t.toNat) (by omega)
  rw [show ((s.toNat : Nat) : Int) = s by omega] at es
  rw [show ((t.toNat : Nat) : Int) = t by omega] at et
  rcases Int.lt_trichotomy s t with h1 | h1 | h1
  · exact absurd (by rw [← es, ← et]; exact e) (hp s.toNat t.toNat (by omega) (by omega) (by omega))
  · exact h1
  · exact absurd (by rw [← es, ← et]; exact e.symm) (hp t.toNat s.toNat (by omega) (by omega) (by omega))

/-- An arrow of the category under x. -/
def UnR (G : XFunctor) (x s t : Int) : Prop := (0 ≤ s ∧ s < ((unL G x).length : Int)) ∧ (0 ≤ t ∧ t < ((unL G x).length : Int)) ∧ ∃ v, Ar G.Source v (ob G x s) (ob G x t) ∧ ar G x t = cmp G.Target (ar G x s) (el G.Arrows v)
def FinP (G : XFunctor) (x : Int) : Prop := 0 < (unL G x).length ∧ ∀ s t, 0 ≤ s → s < ((unL G x).length : Int) → 0 ≤ t → t < ((unL G x).length : Int) → Eqv (UnR G x) s t

theorem fin_iff (h : IsFun G) {x : Int} {l : List Int} (hl : l.length = (unL G x).length) (hk : Ker ((unL G x).length : Int) (el l) (Eqv (UnR G x))) : FinP G x ↔ 0 < l.length ∧ ∀ i, 0 ≤ i → i < (l.length : Int) → el (nrm l) i = 0 := by
  have hle := unL_len h x
  have sl : Small l := by unfold Small; omega
  unfold FinP
  rw [← hl]
  constructor
  · rintro ⟨h0, ha⟩
    refine ⟨h0, fun i i0 i1 => ?_⟩
    have e : el l 0 = el l i := (hk 0 i (by omega) (by omega) i0 (by omega)).2 (ha 0 i (by omega) (by omega) i0 i1)
    have f := first_spec sl (i := 0) (by omega) (by omega)
    rw [nrm_el i0 i1, ← e, show indexL l (el l 0) = 0 by omega, cnt_zero]
  · rintro ⟨h0, ha⟩
    refine ⟨h0, fun s t s0 s1 t0 t1 => ?_⟩
    exact (hk s t s0 (by omega) t0 (by omega)).1 ((nrm_ker sl s0 s1 t0 t1).1 (by rw [ha s s0 s1, ha t t0 t1]))

noncomputable def ptF (G : XFunctor) (x : Int) : XFunctor := ⟨oneC, G.Target, tab 1 fun _ => x, tab 1 fun _ => el G.Target.Identity x⟩
theorem l09Point_eq (sG : SmallF G) (h : IsFun G) {x : Int} (x0 : 0 ≤ x) (x1 : x < G.Target.Objects) : M.spec_l09Point G.Target x = some (ptF G x) := by
  have hs := h.2.1.1.shp
  unfold M.spec_l09Point
  rw [l09One_eq, Option.bind_some, l06Constant_eq oneC_small sG.s2 (by decide) (by decide) x0 (by rw [hs.lid]; exact x1)]
  rfl

theorem l09Objects_eq (h : IsFun G) {x : Int} : M.spec_l09Objects (ptF G x) G = some ((unL G x).map fun q => [0, q.1, q.2]) := by
  apply Ret.eq
  have hs := h.2.1.1.shp
  have n0 := h.1.1.shp.n0
  have n8 := h.1.1.shp.n8
  have lo := h.2.2.lo
  unfold M.spec_l09Objects
  refine Ret.acc 1 (fun i s => s = if i = 0 then [] else (unL G x).map fun q => [0, q.1, q.2]) (by decide) (by decide) rfl ?_ ?_
  · rintro i s next i0 i1 rfl hn
    obtain rfl : i = 0 := by omega
    dsimp only
    rw [if_pos rfl, if_pos (show decide (0 < (ptF G x).Source.Objects) = true from rfl)]
    refine cat_loop2 (n := G.Source.Objects) (L := hmL G x) (F := fun b k => [0, b, k]) n0 (by omega) ?_ ?_
    · rintro b s nx b0 b1 hs' hn2
      have hlen := catL_len (H := fun b => (hmL G x b).map fun k => [0, b, k]) (b := 40) (fun i => by rw [List.length_map]; have := hmL_le h x i; omega) b.toNat
      rw [show ((b.toNat : Nat) : Int) = b by omega, ← hs'] at hlen
      dsimp only
      rw [if_pos (decide_eq_true b1)]
      refine Ret.idx (l := (ptF G x).Objects) (i := 0) (by decide) (by show (0 : Int) < (((tab 1 fun _ : Int => x).length : Nat) : Int); rw [tab_length]; decide) ?_
      rw [show el (ptF G x).Objects 0 = x from rfl]
      refine Ret.idx b0 (by omega) (Ret.call (l02Hom_eq hs _ _) ?_)
      rw [show homL G.Target x (el G.Objects b) = hmL G x b from rfl]
      refine cat_inner (l := hmL G x b) (F := fun k => [0, b, k]) (by have := hmL_le h x b; omega) ?_ ?_
      · intro j s nx3 j0 j1 hl hn3
        have := hmL_le h x b
        dsimp only
        rw [if_pos (decide_eq_true j1)]
        exact Ret.idx j0 j1 (Ret.chk (by unfold lim; omega) (hn3 _ rfl))
      · intro nx3
        dsimp only
        rw [if_neg (by simp [hmL])]
        exact hn2 _ rfl
    · intro nx
      dsimp only
      rw [if_neg (by simp)]
      refine hn _ ?_
      rw [if_neg (by omega), unL_map]
  · rintro s next rfl
    dsimp only
    rw [if_neg (show ¬ decide (1 < (ptF G x).Source.Objects) = true from fun z => absurd (show (1 : Int) < 1 from of_decide_eq_true z) (by decide)), if_neg (by decide)]
    exact Ret.some rfl

/-- What the list of arrows holds. -/
def ArE (G : XFunctor) (x : Int) (D : Int → Int → Int → Prop) (l : List (List Int)) : Prop :=
  ∀ e, e ∈ l ↔ ∃ s t v, D s t v ∧ ((0 ≤ s ∧ s < ((unL G x).length : Int)) ∧ (0 ≤ t ∧ t < ((unL G x).length : Int)) ∧ v ∈ homL G.Source (ob G x s) (ob G x t) ∧ ar G x t = cmp G.Target (ar G x s) (el G.Arrows v)) ∧ e = [s, t, 0, v]

theorem oneC_shp : Shp oneC := by
  have z : ∀ i : Int, 0 ≤ i → i < (oneC.From.length : Int) → i = 0 := fun i i0 i1 => by
    have i1 : i < 1 := i1
    omega
  have zo : ∀ i : Int, 0 ≤ i → i < oneC.Objects → i = 0 := fun i i0 i1 => by
    have i1 : i < 1 := i1
    omega
  refine ⟨by decide, by decide, by decide, by decide, by decide, by decide, ?_, ?_, ?_, ?_, ?_, ?_, ?_, ?_, ?_, ?_⟩
  · intro i i0 i1; obtain rfl := z i i0 i1; decide
  · intro i i0 i1; obtain rfl := z i i0 i1; decide
  · intro i i0 i1; obtain rfl := zo i i0 i1; decide
  · intro i i0 i1; obtain rfl := zo i i0 i1; decide
  · intro i i0 i1; obtain rfl := zo i i0 i1; decide
  · intro i i0 i1; obtain rfl := z i i0 i1; decide
  · intro i j i0 i1 j0 j1 hne; obtain rfl := z i i0 i1; obtain rfl := z j j0 j1; exact absurd rfl hne
  · intro i j i0 i1 j0 j1 _; obtain rfl := z i i0 i1; obtain rfl := z j j0 j1; decide
  · intro i j i0 i1 j0 j1 _; obtain rfl := z i i0 i1; obtain rfl := z j j0 j1; decide
  · intro i j i0 i1 j0 j1 _; obtain rfl := z i i0 i1; obtain rfl := z j j0 j1; decide
theorem homOne : homL oneC 0 0 = [0] := by decide
theorem obj_at {x s : Int} (s0 : 0 ≤ s) (s1 : s < ((unL G x).length : Int)) : el ((unL G x).map fun q => [0, q.1, q.2]) s = [0, ob G x s, ar G x s] := el_map s0 s1

theorem l09Arrows_r (h : IsFun G) {x : Int} (x0 : 0 ≤ x) (x1 : x < G.Target.Objects) : Ret (M.spec_l09Arrows (ptF G x) G ((unL G x).map fun q => [0, q.1, q.2])) fun l => (l.length : Int) ≤ 12800 * ((unL G x).length : Int) ∧ ArE G x (fun _ _ _ => True) l := by
  have hs := h.1.1.shp
  have ht := h.2.1.1.shp
  have m40 := hs.m40
  have la := h.2.2.la
  have hN := unL_len h x
  have LO : ((((unL G x).map fun q => [0, q.1, q.2]).length : Nat) : Int) = ((unL G x).length : Int) := by rw [List.length_map]
  unfold M.spec_l09Arrows
  rw [LO]
  refine Ret.acc ((unL G x).length : Int) (fun s l => (l.length : Int) ≤ 12800 * s ∧ ArE G x (fun s' _ _ => s' < s) l) (by omega) (by omega) ⟨by simp, fun e => ⟨fun z => by simp at z, fun ⟨s, t, v, d, z, _⟩ => by omega⟩⟩ ?_ ?_
  · rintro s l next s0 s1 ⟨hl, hA⟩ hn
    have us := unL_at s0 s1
    dsimp only
    rw [if_pos (decide_eq_true s1)]
    refine Ret.acc ((unL G x).length : Int) (fun t l => (l.length : Int) ≤ 12800 * s + 40 * t ∧ ArE G x (fun s' t' _ => s' < s ∨ (s' = s ∧ t' < t)) l) (by omega) (by omega) ⟨by omega, fun e => (hA e).trans ?_⟩ ?_ ?_
    · constructor
      · rintro ⟨s', t', v, d, z, w⟩; exact ⟨s', t', v, .inl d, z, w⟩
      · rintro ⟨s', t', v, d, z, w⟩
        exact ⟨s', t', v, by omega, z, w⟩
    · rintro t l nx t0 t1 ⟨hl, hA⟩ hn2
      have ut := unL_at t0 t1
      have hv := homL_len hs (ob G x s) (ob G x t)
      dsimp only
      rw [if_pos (decide_eq_true t1)]
      refine Ret.idx s0 (by omega) (Ret.idx t0 (by omega) ?_)
      rw [obj_at s0 s1, obj_at t0 t1]
      have e0 : ∀ a b : Int, el [0, a, b] 0 = 0 := fun _ _ => rfl
      have e1 : ∀ a b : Int, el [0, a, b] 1 = a := fun _ _ => rfl
      have e2 : ∀ a b : Int, el [0, a, b] 2 = b := fun _ _ => rfl
      refine Ret.idx (l := [0, ob G x s, ar G x s]) (i := 0) (by decide) (by simp) (Ret.idx (l := [0, ob G x t, ar G x t]) (i := 0) (by decide) (by simp) ?_)
      rw [e0, e0]
      have eone : M.spec_l02Hom (ptF G x).Source 0 0 = some [0] := by
        have := l02Hom_eq (c := oneC) oneC_shp 0 0
        rw [homOne] at this
        exact this
      refine Ret.call eone (Ret.idx (l := [0, ob G x s, ar G x s]) (i := 1) (by decide) (by simp) (Ret.idx (l := [0, ob G x t, ar G x t]) (i := 1) (by decide) (by simp) ?_))
      rw [e1, e1]
      refine Ret.call (l02Hom_eq hs _ _) ?_
      refine Ret.acc 1 (fun i l => (l.length : Int) ≤ 12800 * s + 40 * t + 40 * i ∧ ArE G x (fun s' t' _ => s' < s ∨ (s' = s ∧ (t' < t ∨ (t' = t ∧ i = 1)))) l) (by decide) (by decide) ⟨by omega, fun e => (hA e).trans ?_⟩ ?_ ?_
      · constructor
        · rintro ⟨s', t', v, d, z, w⟩; exact ⟨s', t', v, by omega, z, w⟩
        · rintro ⟨s', t', v, d, z, w⟩; exact ⟨s', t', v, by omega, z, w⟩
      · rintro i l nx3 i0 i1 ⟨hl, hA⟩ hn3
        obtain rfl : i = 0 := by omega
        dsimp only
        rw [if_pos (show decide ((0 : Int) < (([(0 : Int)].length : Nat) : Int)) = true from rfl)]
        refine Ret.acc ((homL G.Source (ob G x s) (ob G x t)).length : Int) (fun j l => (l.length : Int) ≤ 12800 * s + 40 * t + j ∧ ArE G x (fun s' t' v => s' < s ∨ (s' = s ∧ (t' < t ∨ (t' = t ∧ v ∈ (homL G.Source (ob G x s) (ob G x t)).take j.toNat)))) l) (by omega) (by omega)
          ⟨by omega, fun e => (hA e).trans ?_⟩ ?_ ?_
        · constructor
          · rintro ⟨s', t', v, d, z, w⟩; exact ⟨s', t', v, by omega, z, w⟩
          · rintro ⟨s', t', v, d, z, w⟩
            refine ⟨s', t', v, ?_, z, w⟩
            rcases d with d | ⟨d1, d2 | ⟨_, d3⟩⟩
            · exact .inl d
            · exact .inr ⟨d1, .inl d2⟩
            · simp at d3
        · rintro j l nx4 j0 j1 ⟨hl, hA⟩ hn4
          have mv : el (homL G.Source (ob G x s) (ob G x t)) j ∈ homL G.Source (ob G x s) (ob G x t) := el_mem j0 j1
          have av := hom_ar mv
          have aG := h.map av
          have one := Ar.one ht x0 x1
          have ec := us.2.comp ht aG
          dsimp only
          rw [if_pos (decide_eq_true j1)]
          refine Ret.idx (l := [0]) (i := 0) (by decide) (by simp) ?_
          rw [show el [(0 : Int)] 0 = 0 from rfl]
          refine Ret.idx (l := (ptF G x).Arrows) (i := 0) (by decide) (by show (0 : Int) < (((tab 1 fun _ : Int => el G.Target.Identity x).length : Nat) : Int); rw [tab_length]; decide) ?_
          rw [show el (ptF G x).Arrows 0 = el G.Target.Identity x from rfl]
          refine Ret.idx (l := [0, ob G x t, ar G x t]) (i := 2) (by decide) (by simp) ?_
          rw [e2]
          refine Ret.call (one.th ht ut.2) (Ret.idx (l := [0, ob G x s, ar G x s]) (i := 2) (by decide) (by simp) ?_)
          rw [e2]
          refine Ret.idx j0 j1 (Ret.idx av.p (by have := av.q; omega) (Ret.call (us.2.th ht aG) ?_))
          rw [show (ptF G x).Target = G.Target from rfl, h.2.1.idl ut.2]
          have tk := take_succ_el j0 j1
          refine Ret.ite (fun e => Ret.chk (by unfold lim; omega) (hn4 _ ⟨?_, fun q => ?_⟩)) (fun e => hn4 _ ⟨by omega, fun q => ?_⟩)
          · simp only [List.length_append, List.length_cons, List.length_nil]; omega
          · have e : ar G x t = cmp G.Target (ar G x s) (el G.Arrows (el (homL G.Source (ob G x s) (ob G x t)) j)) := beq_iff_eq.1 e
            rw [List.mem_append, hA q, List.mem_singleton, tk]
            constructor
            · rintro (⟨s', t', v, d, z, w⟩ | rfl)
              · refine ⟨s', t', v, ?_, z, w⟩
                rcases d with d | ⟨d1, d2 | ⟨d2, d3⟩⟩
                · exact .inl d
                · exact .inr ⟨d1, .inl d2⟩
                · exact .inr ⟨d1, .inr ⟨d2, List.mem_append_left _ d3⟩⟩
              · exact ⟨s, t, _, .inr ⟨rfl, .inr ⟨rfl, by simp⟩⟩, ⟨⟨s0, s1⟩, ⟨t0, t1⟩, mv, e⟩, rfl⟩
            · rintro ⟨s', t', v, d, z, w⟩
              rcases d with d | ⟨d1, d2 | ⟨d2, d3⟩⟩
              · exact .inl ⟨s', t', v, .inl d, z, w⟩
              · exact .inl ⟨s', t', v, .inr ⟨d1, .inl d2⟩, z, w⟩
              · rcases List.mem_append.1 d3 with d3 | d3
                · exact .inl ⟨s', t', v, .inr ⟨d1, .inr ⟨d2, d3⟩⟩, z, w⟩
                · rw [List.mem_singleton] at d3
                  subst d1 d2 d3
                  exact .inr w
          · have e : ¬ ar G x t = cmp G.Target (ar G x s) (el G.Arrows (el (homL G.Source (ob G x s) (ob G x t)) j)) := fun z => e (beq_iff_eq.2 z)
            rw [hA q, tk]
            constructor
            · rintro ⟨s', t', v, d, z, w⟩
              refine ⟨s', t', v, ?_, z, w⟩
              rcases d with d | ⟨d1, d2 | ⟨d2, d3⟩⟩
              · exact .inl d
              · exact .inr ⟨d1, .inl d2⟩
              · exact .inr ⟨d1, .inr ⟨d2, List.mem_append_left _ d3⟩⟩
            · rintro ⟨s', t', v, d, z, w⟩
              rcases d with d | ⟨d1, d2 | ⟨d2, d3⟩⟩
              · exact ⟨s', t', v, .inl d, z, w⟩
              · exact ⟨s', t', v, .inr ⟨d1, .inl d2⟩, z, w⟩
              · rcases List.mem_append.1 d3 with d3 | d3
                · exact ⟨s', t', v, .inr ⟨d1, .inr ⟨d2, d3⟩⟩, z, w⟩
                · rw [List.mem_singleton] at d3
                  subst d1 d2 d3
                  exact absurd z.2.2.2 e
        · rintro l nx4 ⟨hl, hA⟩
          dsimp only
          rw [if_neg (by simp)]
          refine hn3 _ ⟨by omega, fun q => (hA q).trans ?_⟩
          rw [show ((homL G.Source (ob G x s) (ob G x t)).length : Int).toNat = (homL G.Source (ob G x s) (ob G x t)).length by omega, List.take_length]
          constructor
          · rintro ⟨s', t', v, d, z, w⟩
            refine ⟨s', t', v, ?_, z, w⟩
            rcases d with d | ⟨d1, d2 | ⟨d2, d3⟩⟩
            · exact .inl d
            · exact .inr ⟨d1, .inl d2⟩
            · exact .inr ⟨d1, .inr ⟨d2, rfl⟩⟩
          · rintro ⟨s', t', v, d, z, w⟩
            refine ⟨s', t', v, ?_, z, w⟩
            rcases d with d | ⟨d1, d2 | ⟨d2, d3⟩⟩
            · exact .inl d
            · exact .inr ⟨d1, .inl d2⟩
            · subst d1 d2; exact .inr ⟨rfl, .inr ⟨rfl, z.2.2.1⟩⟩
      · rintro l nx3 ⟨hl, hA⟩
        dsimp only
        rw [if_neg (show ¬ decide ((1 : Int) < (([(0 : Int)].length : Nat) : Int)) = true from by decide)]
        refine hn2 _ ⟨by omega, fun q => (hA q).trans ?_⟩
        constructor
        · rintro ⟨s', t', v, d, z, w⟩; exact ⟨s', t', v, by omega, z, w⟩
        · rintro ⟨s', t', v, d, z, w⟩; exact ⟨s', t', v, by omega, z, w⟩
    · rintro l nx ⟨hl, hA⟩
      dsimp only
      rw [if_neg (by simp)]
      refine hn _ ⟨by omega, fun q => (hA q).trans ?_⟩
      constructor
      · rintro ⟨s', t', v, d, z, w⟩; exact ⟨s', t', v, by omega, z, w⟩
      · rintro ⟨s', t', v, d, z, w⟩; exact ⟨s', t', v, by omega, z, w⟩
  · rintro l next ⟨hl, hA⟩
    dsimp only
    rw [if_neg (by simp)]
    refine Ret.some ⟨hl, fun q => (hA q).trans ?_⟩
    constructor
    · rintro ⟨s', t', v, d, z, w⟩; exact ⟨s', t', v, trivial, z, w⟩
    · rintro ⟨s', t', v, d, z, w⟩; exact ⟨s', t', v, by omega, z, w⟩

theorem l09Final_eq (sG : SmallF G) (h : IsFun G) : M.spec_l09Final G = some (decide (∀ x, 0 ≤ x → x < G.Target.Objects → FinP G x)) := by
  apply Ret.eq
  have ht := h.2.1.1.shp
  have n0 := ht.n0
  have n8 := ht.n8
  unfold M.spec_l09Final
  refine Ret.all G.Target.Objects (fun x => FinP G x) n0 (by omega) ?_ ?_
  · intro x next x0 x1 hp hn
    have hN := unL_len h x
    have LO : ((((unL G x).map fun q => [0, q.1, q.2]).length : Nat) : Int) = ((unL G x).length : Int) := by rw [List.length_map]
    rw [if_pos (decide_eq_true x1)]
    refine Ret.call (l09Point_eq sG h x0 x1) (Ret.call (l09Objects_eq h) (Ret.bind (l09Arrows_r h x0 x1) ?_))
    rintro l ⟨hl, hA⟩
    have le4 : ∀ k, 0 ≤ k → k < (l.length : Int) → ∃ s t v, ((0 ≤ s ∧ s < ((unL G x).length : Int)) ∧ (0 ≤ t ∧ t < ((unL G x).length : Int)) ∧ v ∈ homL G.Source (ob G x s) (ob G x t) ∧ ar G x t = cmp G.Target (ar G x s) (el G.Arrows v)) ∧ el l k = [s, t, 0, v] := fun k k0 k1 => by
      obtain ⟨s, t, v, _, z, w⟩ := (hA _).1 (el_mem k0 k1)
      exact ⟨s, t, v, z, w⟩
    refine Ret.acc (l.length : Int) (fun i p => p = tab i fun k => [el (el l k) 0, el (el l k) 1]) (by omega) (by omega) rfl ?_ ?_
    · rintro i p nx i0 i1 rfl hn2
      have L : (((tab i fun k => [el (el l k) 0, el (el l k) 1]).length : Nat) : Int) = i := by rw [tab_length]; omega
      obtain ⟨s, t, v, z, w⟩ := le4 i i0 i1
      dsimp only
      rw [if_pos (decide_eq_true i1)]
      exact Ret.idx i0 i1 (Ret.idx (by decide) (by rw [w]; simp) (Ret.idx (by decide) (by rw [w]; simp) (Ret.chk (by unfold lim; omega) (hn2 _ (tab_succ (fun k => [el (el l k) 0, el (el l k) 1]) i0).symm))))
    rintro p nx rfl
    dsimp only
    rw [if_neg (by simp), LO]
    have LP : (((tab (l.length : Int) fun k => [el (el l k) 0, el (el l k) 1]).length : Nat) : Int) = (l.length : Int) := by rw [tab_length]; omega
    have eP : ∀ k, 0 ≤ k → k < (l.length : Int) → ∃ s t v, ((0 ≤ s ∧ s < ((unL G x).length : Int)) ∧ (0 ≤ t ∧ t < ((unL G x).length : Int)) ∧ v ∈ homL G.Source (ob G x s) (ob G x t) ∧ ar G x t = cmp G.Target (ar G x s) (el G.Arrows v)) ∧ el (tab (l.length : Int) fun k => [el (el l k) 0, el (el l k) 1]) k = [s, t] := fun k k0 k1 => by
      obtain ⟨s, t, v, z, w⟩ := le4 k k0 k1
      refine ⟨s, t, v, z, ?_⟩
      rw [el_tab k0 k1, w]; rfl
    refine Ret.bind (l01Join_r (n := ((unL G x).length : Int)) (by omega) (by omega) (by omega) ?_) ?_
    · intro k k0 k1
      obtain ⟨s, t, v, z, w⟩ := eP k k0 (by omega)
      rw [w]
      exact ⟨by simp, z.1, z.2.1⟩
    · rintro r ⟨q, rfl, hq, hk⟩
      have sq : Small q := by unfold Small; omega
      have hk' : Ker ((unL G x).length : Int) (el q) (Eqv (UnR G x)) := hk.congr fun a b => Eqv.congr (fun a b hab => ?_) (fun a b hab => ?_)
      · have hf := fin_iff h (by omega) hk'
        refine Ret.all ((nrm q).length : Int) (fun i => el (nrm q) i = 0) (by omega) (by have := nrm_len (l := q); omega) ?_ ?_
        · intro i nx3 i0 i1 hr hn3
          rw [if_pos (decide_eq_true i1)]
          refine Ret.idx i0 i1 (Ret.ite (fun e => Ret.some ?_) (fun e => hn3 (Decidable.byContradiction fun z => e (bne_iff_ne.2 z))))
          rw [decide_eq_false]
          intro z
          have := (hf.1 (z x x0 x1)).2 i i0 (by have := nrm_len (l := q); omega)
          exact bne_iff_ne.1 e this
        · intro nx3 hr
          rw [if_neg (by simp)]
          refine Ret.ite (fun e => Ret.some ?_) (fun e => hn (hf.2 ⟨?_, fun i i0 i1 => hr i i0 (by have := nrm_len (l := q); omega)⟩))
          · rw [decide_eq_false]
            intro z
            have e := beq_iff_eq.1 e
            have := (z x x0 x1).1
            omega
          · have e : ¬ ((unL G x).length : Int) = 0 := fun z => e (beq_iff_eq.2 z)
            omega
      · obtain ⟨k, k0, k1, e1, e2⟩ := hab
        obtain ⟨s, t, v, z, w⟩ := eP k k0 (by omega)
        rw [w] at e1 e2
        subst e1 e2
        exact .of ⟨z.1, z.2.1, v, hom_ar z.2.2.1, z.2.2.2⟩
      · obtain ⟨ra, rb, v, av, ev⟩ := hab
        obtain ⟨k, k0, k1, hk2⟩ := mem_el ((hA [a, b, 0, v]).2 ⟨a, b, v, trivial, ⟨ra, rb, ar_hom av, ev⟩, rfl⟩)
        refine .of ⟨k, k0, by omega, ?_, ?_⟩
        · rw [el_tab k0 k1, hk2]; rfl
        · rw [el_tab k0 k1, hk2]; rfl
  · intro next hp
    rw [if_neg (by simp)]
    exact Ret.some (decide_eq_true hp).symm

instance : Inhabited Ximpl_pair_int64 := ⟨⟨0, 0⟩⟩

/-! ### the program's way -/
theorem index_pair_r {x : Int} (hN : ((unL G x).length : Int) ≤ 320) {t : Int} (t0 : 0 ≤ t) (t1 : t < ((unL G x).length : Int)) {a b : Int} (e : el (unL G x) t = (a, b)) : M.impl_index_impl_pair_int64 ((unL G x).map fun q => (⟨q.1, q.2⟩ : Ximpl_pair_int64)) ⟨a, b⟩ = some t := by
  apply Ret.eq
  have L : ((((unL G x).map fun q => (⟨q.1, q.2⟩ : Ximpl_pair_int64)).length : Nat) : Int) = ((unL G x).length : Int) := by rw [List.length_map]
  unfold M.impl_index_impl_pair_int64 M.slices_Index_impl_pair_int64_impl_pair_int64
  refine Ret.bindId ?_
  rw [L]
  refine Ret.all ((unL G x).length : Int) (fun i => i ≠ t) (by omega) (by omega) ?_ ?_
  · intro i next i0 i1 hp hn
    rw [if_pos (decide_eq_true i1)]
    refine Ret.idx i0 (by omega) ?_
    rw [el_map i0 i1]
    dsimp only
    refine Ret.ite (fun e2 => Ret.some ?_) (fun e2 => hn fun z => e2 ?_)
    · have e2 := beq_iff_eq.1 e2
      rw [Bool.and_eq_true, beq_iff_eq, beq_iff_eq] at e2
      exact unL_inj i0 i1 t0 t1 (by rw [e]; exact Prod.ext e2.1.symm e2.2.symm)
    · subst z
      rw [e]
      simp
  · intro next hp
    exact absurd rfl (hp t t0 t1)

theorem isFinal_eq (h : IsFun G) : M.impl_Functor_isFinal G = some (decide (∀ x, 0 ≤ x → x < G.Target.Objects → FinP G x)) := by
  apply Ret.eq
  have hs := h.1.1.shp
  have ht := h.2.1.1.shp
  have n0 := ht.n0
  have n8 := ht.n8
  have s0 := hs.n0
  have s8 := hs.n8
  have m40 := hs.m40
  have lt := hs.lto
  have lo := h.2.2.lo
  have la := h.2.2.la
  unfold M.impl_Functor_isFinal
  refine Ret.all G.Target.Objects (fun x => FinP G x) n0 (by omega) ?_ ?_
  · intro x next x0 x1 hp hn
    have hN := unL_len h x
    have LO : ((((unL G x).map fun q => (⟨q.1, q.2⟩ : Ximpl_pair_int64)).length : Nat) : Int) = ((unL G x).length : Int) := by rw [List.length_map]
    rw [if_pos (decide_eq_true x1), lo]
    refine cat_loop2 (n := G.Source.Objects) (L := hmL G x) (F := fun b k => (⟨b, k⟩ : Ximpl_pair_int64)) s0 (by omega) ?_ ?_
    · rintro b s nx b0 b1 hs' hn2
      have hlen := catL_len (H := fun b => (hmL G x b).map fun k => (⟨b, k⟩ : Ximpl_pair_int64)) (b := 40) (fun i => by rw [List.length_map]; have := hmL_le h x i; omega) b.toNat
      rw [show ((b.toNat : Nat) : Int) = b by omega, ← hs'] at hlen
      dsimp only
      rw [if_pos (decide_eq_true b1)]
      refine Ret.idx b0 (by omega) (Ret.call (hom_eq ht _ _) ?_)
      rw [show homL G.Target x (el G.Objects b) = hmL G x b from rfl]
      refine cat_inner (l := hmL G x b) (F := fun k => (⟨b, k⟩ : Ximpl_pair_int64)) (by have := hmL_le h x b; omega) ?_ ?_
      · intro j s nx3 j0 j1 hl hn3
        have := hmL_le h x b
        dsimp only
        rw [if_pos (decide_eq_true j1)]
        exact Ret.idx j0 j1 (Ret.chk (by unfold lim; simp only [List.length_cons, List.length_nil]; omega) (hn3 _ rfl))
      · intro nx3
        dsimp only
        rw [if_neg (by simp [hmL])]
        exact hn2 _ rfl
    intro nx
    dsimp only
    rw [if_neg (by simp), unL_map, LO]
    refine Ret.call (joinerOf_eq (by omega) (by omega)) ?_
    refine Ret.acc ((unL G x).length : Int) (fun s j => (j.length : Int) = ((unL G x).length : Int) ∧ ∃ ρ, UF j ρ ∧ Ker ((unL G x).length : Int) ρ (Eqv fun a b => a < s ∧ UnR G x a b)) (by omega) (by omega)
      ⟨by rw [tab_length]; omega, fun x => x, UF.start _, (Ker.none fun i j _ _ _ _ e => e).congr fun a b => Eqv.congr (fun a b h => h.elim) fun a b ⟨h1, h2, _⟩ => by omega⟩ ?_ ?_
    · rintro s j nx2 ss0 s1 ⟨hl, ρ, hu, hk⟩ hn2
      have us := unL_at ss0 s1
      dsimp only
      rw [if_pos (decide_eq_true s1)]
      refine Ret.idx ss0 (by omega) ?_
      rw [el_map ss0 s1]
      dsimp only
      refine Ret.call (outOf_eq hs.small.s1 _) ?_
      refine Ret.acc ((fil (G.Source.From.length : Int) fun u => el G.Source.From u == ob G x s).length : Int) (fun q j => (j.length : Int) = ((unL G x).length : Int) ∧ ∃ ρ, UF j ρ ∧ Ker ((unL G x).length : Int) ρ (Eqv fun a b => (a < s ∧ UnR G x a b) ∨
          (a = s ∧ (0 ≤ b ∧ b < ((unL G x).length : Int)) ∧ ∃ v, v ∈ (fil (G.Source.From.length : Int) fun u => el G.Source.From u == ob G x s).take q.toNat ∧ Ar G.Source v (ob G x s) (ob G x b) ∧ ar G x b = cmp G.Target (ar G x s) (el G.Arrows v)))) (by omega)
        (by have := fil_length_le (G.Source.From.length : Int) (fun u => el G.Source.From u == ob G x s); omega) ⟨hl, ρ, hu, hk.congr fun a b => Eqv.congr (fun a b h => .of (.inl h)) fun a b h => ?_⟩ ?_ ?_
      · rcases h with h | ⟨_, _, v, hv, _⟩
        · exact .of h
        · simp at hv
      · rintro q j nx3 q0 q1 ⟨hl, ρ, hu, hk⟩ hn3
        have mu := fil_mem.1 (el_mem (l := fil (G.Source.From.length : Int) fun u => el G.Source.From u == ob G x s) q0 q1)
        have au : Ar G.Source (el (fil (G.Source.From.length : Int) fun u => el G.Source.From u == ob G x s) q) (ob G x s) (el G.Source.To (el (fil (G.Source.From.length : Int) fun u => el G.Source.From u == ob G x s) q)) := ⟨mu.1, mu.2.1, beq_iff_eq.1 mu.2.2, rfl⟩
        have aG := h.map au
        have ec := us.2.comp ht aG
        have tt := au.tgt hs
        obtain ⟨t, t0, t1, et⟩ := mem_el (unL_mem.2 ⟨tt, ar_hom ec⟩)
        have e1 : ob G x t = el G.Source.To (el (fil (G.Source.From.length : Int) fun u => el G.Source.From u == ob G x s) q) := congrArg Prod.fst et
        have e2 : ar G x t = cmp G.Target (ar G x s) (el G.Arrows (el (fil (G.Source.From.length : Int) fun u => el G.Source.From u == ob G x s) q)) := congrArg Prod.snd et
        dsimp only
        rw [if_pos (decide_eq_true q1)]
        refine Ret.idx q0 q1 (Ret.idx mu.1 (Int.lt_of_lt_of_le mu.2.1 (Int.le_of_eq lt.symm)) (Ret.idx mu.1 (Int.lt_of_lt_of_le mu.2.1 (Int.le_of_eq la.symm)) (Ret.call (us.2.ti ht aG) (Ret.call (index_pair_r hN t0 t1 et) (Ret.bind (join_r hu (by unfold Small; omega) (by rw [hl]; exact hk) ss0 (by omega) t0 (by omega)) ?_)))))
        rintro ⟨bb, j'⟩ ⟨ρ', hu', hl', hk'⟩
        dsimp only at hu' hl' hk'
        rw [hl] at hk'
        refine hn3 _ ⟨by show (j'.length : Int) = _; omega, ρ', hu', hk'.congr fun a b => Eqv.congr (fun a b hab => ?_) (fun a b hab => ?_)⟩
        · rcases hab with (hab | ⟨ha, hb, v, hv, hh⟩) | ⟨rfl, rfl⟩
          · exact .of (.inl hab)
          · refine .of (.inr ⟨ha, hb, v, ?_, hh⟩)
            rw [take_succ_el q0 q1]
            exact List.mem_append_left _ hv
          · refine .of (.inr ⟨rfl, ⟨t0, t1⟩, _, ?_, ?_, e2⟩)
            · rw [take_succ_el q0 q1]; simp
            · rw [e1]; exact au
        · rcases hab with hab | ⟨ha, hb, v, hv, hh⟩
          · exact .of (.inl (.inl hab))
          · rw [take_succ_el q0 q1] at hv
            rcases List.mem_append.1 hv with hv | hv
            · exact .of (.inl (.inr ⟨ha, hb, v, hv, hh⟩))
            · rw [List.mem_singleton] at hv
              subst hv
              refine .of (.inr ⟨ha, ?_⟩)
              refine unL_inj hb.1 hb.2 t0 t1 (Prod.ext ?_ ?_)
              · show ob G x b = ob G x t
                rw [e1, ← hh.1.t]
              · show ar G x b = ar G x t
                rw [e2, hh.2]
      · rintro j nx3 ⟨hl, ρ, hu, hk⟩
        dsimp only
        rw [if_neg (by simp)]
        refine hn2 _ ⟨hl, ρ, hu, hk.congr fun a b => Eqv.congr (fun a b hab => ?_) (fun a b hab => ?_)⟩
        · rcases hab with hab | ⟨rfl, hb, v, hv, hh⟩
          · exact .of ⟨by omega, hab.2⟩
          · exact .of ⟨by omega, ⟨ss0, s1⟩, hb, v, hh⟩
        · obtain ⟨ha, hu2⟩ := hab
          by_cases z : a = s
          · subst z
            obtain ⟨_, hb, v, av, ev⟩ := hu2
            refine .of (.inr ⟨rfl, hb, v, ?_, av, ev⟩)
            rw [show ((fil (G.Source.From.length : Int) fun u => el G.Source.From u == ob G x a).length : Int).toNat = (fil (G.Source.From.length : Int) fun u => el G.Source.From u == ob G x a).length by omega, List.take_length]
            exact fil_mem.2 ⟨av.p, av.q, beq_iff_eq.2 av.s⟩
          · exact .of (.inl ⟨by omega, hu2⟩)
    · rintro j nx2 ⟨hl, ρ, hu, hk⟩
      dsimp only
      rw [if_neg (by simp)]
      have hk' : Ker ((unL G x).length : Int) (el (tab (j.length : Int) ρ)) (Eqv (UnR G x)) := by
        intro a b a0 a1 b0 b1
        rw [el_tab a0 (by omega), el_tab b0 (by omega), hk a b a0 a1 b0 b1]
        exact Eqv.congr (fun a b h => .of h.2) (fun a b h => .of ⟨h.1.2, h⟩)
      have L2 : (((tab (j.length : Int) ρ).length : Nat) : Int) = ((unL G x).length : Int) := by rw [tab_length]; omega
      have sT : Small (tab (j.length : Int) ρ) := by unfold Small; omega
      have hf := fin_iff h (by omega) hk'
      have ho := one_class sT
      refine Ret.bind (partition_r hu (by unfold Small; omega)) ?_
      rintro ⟨r, j'⟩ hr
      dsimp only at hr ⊢
      subst hr
      refine Ret.bind (classes_r sT) ?_
      rintro r rfl
      refine Ret.ite (fun e => Ret.some ?_) (fun e => hn (hf.2 (ho.1 (Decidable.byContradiction fun z => e (bne_iff_ne.2 z)))))
      rw [decide_eq_false]
      intro z
      exact bne_iff_ne.1 e (ho.2 (hf.1 (z x x0 x1)))
  · intro next hp
    rw [if_neg (by simp)]
    exact Ret.some (decide_eq_true hp).symm
end

theorem IsInitial_both {f : XFunctor} (sf : SmallF f) : ∃ w w', M.spec_IsInitial f = some (w, w') ∧ M.impl_IsInitial f = some (w, w') := by
  by_cases h : IsFun f
  · have sG := opF_small sf h
    have hG := opF_fun h
    refine ⟨decide (∀ x, 0 ≤ x → x < (opF f).Target.Objects → FinP (opF f) x), 0, ?_, ?_⟩
    · unfold M.spec_IsInitial
      rw [l06Is_eq sf, decide_eq_true h, Option.bind_some, if_pos rfl, l06Op_eq sf h.1.1.shp h.2.1.1.shp, Option.bind_some, l09Final_eq sG hG]; rfl
    · unfold M.impl_IsInitial
      rw [isFunctor_eq sf, decide_eq_true h, Option.bind_some, if_pos rfl, Functor_opposite_eq sf h.1.1.shp h.2.1.1.shp, Option.bind_some, isFinal_eq hG]; rfl
  · refine ⟨false, 1, ?_, ?_⟩
    · unfold M.spec_IsInitial
      rw [l06Is_eq sf, decide_eq_false h]; rfl
    · unfold M.impl_IsInitial
      rw [isFunctor_eq sf, decide_eq_false h]; rfl

theorem law_IsInitial {a0 : XFunctor} (h0 : R.XFunctor a0) : M.laws_FnExactIsInitial a0 = some true := by
  unfold M.laws_FnExactIsInitial
  obtain ⟨v0, e0, hv0⟩ := szFunctor_r (n := 1048576) (by decide) (by decide) (fitsF h0)
  rw [e0, Option.bind_some]
  rcases hv0 with ⟨z0, _⟩ | ⟨l0, u0, s0⟩
  · rw [if_pos (decide_eq_true z0)]
  · rw [if_neg (fun h => absurd (of_decide_eq_true h) (by omega))]
    rw [toFunctor_eq s0, Option.bind_some]
    obtain ⟨w, w', es, ei⟩ := IsInitial_both s0
    have hb0 : ((w == w) == false) = false := by cases w <;> rfl
    rw [es, ei]
    simp only [Option.bind_some]
    rw [eqFunctor_refl s0]
    simp only [Option.bind_some, bne_self_eq_false, Bool.false_eq_true, if_false, if_true, hb0]

end Go.Gx
