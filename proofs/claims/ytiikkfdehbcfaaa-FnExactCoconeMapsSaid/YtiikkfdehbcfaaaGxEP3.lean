/- Laid together: part 3. -/
import Derived.Test.YtiikkfdehbcfaaaGxEP0
import Derived.Test.YtiikkfdehbcfaaaGxEM2
import Derived.Test.YtiikkfdehbcfaaaGxEP2
/- Plain laws: adjunctions. -/
namespace Go.Gx
open Classical
set_option maxHeartbeats 2000000

structure SmallA (a : XAdjunction) : Prop where
  s1 : SmallF a.Left
  s2 : SmallF a.Right
  s3 : Small a.Unit
  s4 : Small a.Counit
structure FitsA (a : XAdjunction) : Prop where
  f1 : FitsF a.Left
  f2 : FitsF a.Right
  f3 : Fits a.Unit
  f4 : Fits a.Counit
/-- All of an adjunction but its triangles. -/
structure Adj0 (a : XAdjunction) : Prop where
  f : IsFun a.Left
  g : IsFun a.Right
  e1 : a.Left.Target = a.Right.Source
  e2 : a.Right.Target = a.Left.Source
  u : IsNat ⟨idF a.Left.Source, thenF a.Left a.Right, a.Unit⟩
  k : IsNat ⟨thenF a.Right a.Left, idF a.Left.Target, a.Counit⟩

theorem Adj0.unit {a : XAdjunction} (h : Adj0 a) {x : Int} (h0 : 0 ≤ x) (h1 : x < a.Left.Source.Objects) :
    x < (a.Unit.length : Int) ∧ (0 ≤ el a.Unit x ∧ el a.Unit x < (a.Left.Source.From.length : Int)) ∧ el a.Left.Source.From (el a.Unit x) = x ∧ el a.Left.Source.To (el a.Unit x) = el a.Right.Objects (el a.Left.Objects x) := by
  obtain ⟨u1, u2, u3⟩ := h.u.1.2.2.2
  have lo := h.f.2.2.lo
  dsimp only [idF, thenF] at u1 u2 u3
  have q := u3 x h0 (by omega)
  rw [el_tab h0 h1, el_thenL h0 (by omega)] at q
  exact ⟨by omega, u2 x h0 (by omega), q.1, q.2⟩
theorem Adj0.counit {a : XAdjunction} (h : Adj0 a) {y : Int} (h0 : 0 ≤ y) (h1 : y < a.Left.Target.Objects) :
    y < (a.Counit.length : Int) ∧ (0 ≤ el a.Counit y ∧ el a.Counit y < (a.Left.Target.From.length : Int)) ∧ el a.Left.Target.From (el a.Counit y) = el a.Left.Objects (el a.Right.Objects y) ∧ el a.Left.Target.To (el a.Counit y) = y := by
  obtain ⟨u1, u2, u3⟩ := h.k.1.2.2.2
  have lo := h.g.2.2.lo
  have e := h.e1
  dsimp only [idF, thenF] at u1 u2 u3
  rw [← e] at u1 lo
  have q := u3 y h0 (by omega)
  rw [el_tab h0 h1, el_thenL h0 (by omega)] at q
  exact ⟨by omega, u2 y h0 (by omega), q.1, q.2⟩
theorem Adj0.lob {a : XAdjunction} (h : Adj0 a) {x : Int} (h0 : 0 ≤ x) (h1 : x < a.Left.Source.Objects) :
    x < (a.Left.Objects.length : Int) ∧ 0 ≤ el a.Left.Objects x ∧ el a.Left.Objects x < a.Left.Target.Objects := by
  have lo := h.f.2.2.lo
  exact ⟨by omega, h.f.2.2.ino x h0 (by omega)⟩
theorem Adj0.rob {a : XAdjunction} (h : Adj0 a) {y : Int} (h0 : 0 ≤ y) (h1 : y < a.Left.Target.Objects) :
    y < (a.Right.Objects.length : Int) ∧ 0 ≤ el a.Right.Objects y ∧ el a.Right.Objects y < a.Left.Source.Objects := by
  have lo := h.g.2.2.lo
  have io := h.g.2.2.ino
  rw [← h.e1] at lo
  rw [h.e2] at io
  exact ⟨by omega, io y h0 (by omega)⟩
theorem Adj0.larr {a : XAdjunction} (h : Adj0 a) {f : Int} (h0 : 0 ≤ f) (h1 : f < (a.Left.Source.From.length : Int)) :
    f < (a.Left.Arrows.length : Int) ∧ (0 ≤ el a.Left.Arrows f ∧ el a.Left.Arrows f < (a.Left.Target.From.length : Int)) ∧ el a.Left.Target.From (el a.Left.Arrows f) = el a.Left.Objects (el a.Left.Source.From f) ∧ el a.Left.Target.To (el a.Left.Arrows f) = el a.Left.Objects (el a.Left.Source.To f) := by
  have la := h.f.2.2.la
  exact ⟨by omega, h.f.2.2.ina f h0 (by omega), h.f.2.2.afrom f h0 h1, h.f.2.2.ato f h0 h1⟩
theorem Adj0.rarr {a : XAdjunction} (h : Adj0 a) {g : Int} (h0 : 0 ≤ g) (h1 : g < (a.Left.Target.From.length : Int)) :
    g < (a.Right.Arrows.length : Int) ∧ (0 ≤ el a.Right.Arrows g ∧ el a.Right.Arrows g < (a.Left.Source.From.length : Int)) ∧ el a.Left.Source.From (el a.Right.Arrows g) = el a.Right.Objects (el a.Left.Target.From g) ∧ el a.Left.Source.To (el a.Right.Arrows g) = el a.Right.Objects (el a.Left.Target.To g) := by
  have la := h.g.2.2.la
  have ia := h.g.2.2.ina
  have af := h.g.2.2.afrom g h0
  have at' := h.g.2.2.ato g h0
  rw [← h.e1] at la af at'
  rw [h.e2] at ia af at'
  exact ⟨by omega, ia g h0 (by omega), af h1, at' h1⟩

theorem Adj0.au {a : XAdjunction} (h : Adj0 a) {x : Int} (h0 : 0 ≤ x) (h1 : x < a.Left.Source.Objects) : Ar a.Left.Source (el a.Unit x) x (el a.Right.Objects (el a.Left.Objects x)) :=
  have u := h.unit h0 h1
  ⟨u.2.1.1, u.2.1.2, u.2.2.1, u.2.2.2⟩
theorem Adj0.ak {a : XAdjunction} (h : Adj0 a) {y : Int} (h0 : 0 ≤ y) (h1 : y < a.Left.Target.Objects) : Ar a.Left.Target (el a.Counit y) (el a.Left.Objects (el a.Right.Objects y)) y :=
  have u := h.counit h0 h1
  ⟨u.2.1.1, u.2.1.2, u.2.2.1, u.2.2.2⟩
theorem Adj0.lm {a : XAdjunction} (h : Adj0 a) {f x y : Int} (r : Ar a.Left.Source f x y) : Ar a.Left.Target (el a.Left.Arrows f) (el a.Left.Objects x) (el a.Left.Objects y) := by
  have u := h.larr r.p r.q
  exact ⟨u.2.1.1, u.2.1.2, by rw [u.2.2.1, r.s], by rw [u.2.2.2, r.t]⟩
theorem Adj0.rm {a : XAdjunction} (h : Adj0 a) {f x y : Int} (r : Ar a.Left.Target f x y) : Ar a.Left.Source (el a.Right.Arrows f) (el a.Right.Objects x) (el a.Right.Objects y) := by
  have u := h.rarr r.p r.q
  exact ⟨u.2.1.1, u.2.1.2, by rw [u.2.2.1, r.s], by rw [u.2.2.2, r.t]⟩
theorem Adj0.a1 {a : XAdjunction} (h : Adj0 a) {x : Int} (h0 : 0 ≤ x) (h1 : x < a.Left.Source.Objects) :
    Ar a.Left.Target (cmp a.Left.Target (el a.Left.Arrows (el a.Unit x)) (el a.Counit (el a.Left.Objects x))) (el a.Left.Objects x) (el a.Left.Objects x) :=
  have o := h.lob h0 h1
  (h.lm (h.au h0 h1)).comp h.f.2.1.1.shp (h.ak o.2.1 o.2.2)
theorem Adj0.a2 {a : XAdjunction} (h : Adj0 a) {y : Int} (h0 : 0 ≤ y) (h1 : y < a.Left.Target.Objects) :
    Ar a.Left.Source (cmp a.Left.Source (el a.Unit (el a.Right.Objects y)) (el a.Right.Arrows (el a.Counit y))) (el a.Right.Objects y) (el a.Right.Objects y) :=
  have o := h.rob h0 h1
  (h.au o.2.1 o.2.2).comp h.f.1.1.shp (h.rm (h.ak h0 h1))

end Go.Gx

/- Plain laws: right adjoints, from universal arrows. -/
namespace Go.Gx
open Classical
set_option maxHeartbeats 1000000

end Go.Gx

/- Plain laws: opposites. -/
namespace Go.Gx
open Classical
set_option maxHeartbeats 1000000

def opC (c : XCategory) : XCategory := ⟨c.Objects, c.To, c.From, c.Identity, tab (c.From.length : Int) fun i => tab (c.From.length : Int) fun j => cmp c j i⟩
def opF (f : XFunctor) : XFunctor := ⟨opC f.Source, opC f.Target, f.Objects, f.Arrows⟩

theorem opC_small {c : XCategory} (h : Shp c) : SmallC (opC c) := by
  obtain ⟨s1, s2, s3, s4, s5⟩ := h.small
  have hm := h.m40
  refine ⟨s2, s1, s3, ?_, ?_⟩
  · simp only [opC, Small, tab_length]; omega
  · intro r hr
    obtain ⟨i, h0, h1, rfl⟩ := mem_el hr
    simp only [opC, tab_length] at h1
    simp only [opC, Small]
    rw [el_tab h0 (by omega), tab_length]; omega

theorem l03Op_eq {c : XCategory} (h : Shp c) : M.spec_l03Op c = some (opC c) := by
  apply Ret.eq
  obtain ⟨s1, s2, s3, s4, s5⟩ := h.small
  unfold M.spec_l03Op
  refine Ret.call (own_eq s2) (Ret.call (own_eq s1) (Ret.call (own_eq s3) ?_))
  have hm := h.m40
  have hc := h.lco
  refine Ret.acc (c.From.length : Int) (fun i a => a = tab i fun i => tab (c.From.length : Int) fun j => cmp c j i) (by omega) (by omega) rfl ?_ ?_
  · rintro i a next hi0 hi1 rfl hn1
    dsimp only
    simp only [decide_eq_true_eq]
    rw [if_pos hi1]
    refine Ret.acc (c.From.length : Int) (fun j a => a = tab j fun j => cmp c j i) (by omega) (by omega) rfl ?_ ?_
    · rintro j a next' hj0 hj1 rfl hn2
      dsimp only
      have hr := h.row j hj0 hj1
      (repeat' (first | with_reducible refine Ret.pos ‹_› ?_ | with_reducible refine Ret.neg ‹_› ?_ | with_reducible refine Ret.neg (Int.lt_irrefl _) ?_ | with_reducible refine Ret.ite (fun _ => ?_) (fun _ => ?_) | with_reducible refine Ret.idx ?_ ?_ ?_ | with_reducible refine Ret.chk ?_ ?_ | with_reducible refine hn3 ?_ | with_reducible refine hn2 ?_ | with_reducible refine hn1 ?_ | with_reducible refine hn3 _ ?_ | with_reducible refine hn2 _ ?_ | with_reducible refine hn1 _ ?_ | with_reducible refine Ret.some ?_))
      · exact hj0
      · omega
      · exact hi0
      · omega
      · rw [tab_length]; unfold lim; simp; omega
      · exact (tab_succ _ hj0).symm
    · rintro a next' rfl
      dsimp only
      rw [if_neg (by omega)]
      refine Ret.chk (by rw [tab_length]; unfold lim; omega) (hn1 _ (tab_succ (fun i => tab (c.From.length : Int) fun j => cmp c j i) hi0).symm)
  · rintro a next rfl
    dsimp only
    simp only [decide_eq_true_eq]
    rw [if_neg (by omega)]
    exact Ret.some rfl

theorem l06Op_eq {f : XFunctor} (h : SmallF f) (hS : Shp f.Source) (hT : Shp f.Target) : M.spec_l06Op f = some (opF f) := by
  unfold M.spec_l06Op
  rw [l03Op_eq hS, l03Op_eq hT]
  show (M.spec_l06Make _ _ _ _).bind _ = _
  rw [l06Make_eq (opC_small hS) (opC_small hT) h.s3 h.s4]; rfl

theorem opposite_eq {c : XCategory} (h : Shp c) : M.impl_opposite c = some (opC c) := by
  obtain ⟨s1, s2, s3, s4, s5⟩ := h.small
  have hm := h.m40
  have ht := h.lto
  have hc := h.lco
  unfold M.impl_opposite
  rw [clone_eq s1, clone_eq s2, clone_eq s3]
  simp only [Option.bind_some]
  rw [table_eq (v := fun i j => cmp c j i)]
  · simp only [Option.bind_some, opC, ht, Option.some.injEq, XCategory.mk.injEq, true_and]
    apply tab_congr; intro i hi0 hi1
    apply tab_congr; intro j hj0 hj1
    split
    · rfl
    · rename_i hne
      exact (h.no j i hj0 hj1 hi0 hi1 (fun e => hne e.symm)).symm
  · show (c.To.length : Int) ≤ 40
    omega
  · show (c.From.length : Int) = (c.To.length : Int)
    omega
  · intro i j hi0 hi1 hj0 hj1 _
    unfold M.impl_opposite_1
    have hi2 : i < (c.From.length : Int) := by
      have : i < (c.To.length : Int) := hi1
      omega
    have hj2 : j < (c.From.length : Int) := by
      have : j < (c.To.length : Int) := hj1
      omega
    have := h.row j hj0 hj2
    rw [then_eq hj0 (by omega) hi0 (by omega)]; rfl

theorem Functor_opposite_eq {f : XFunctor} (h : SmallF f) (hS : Shp f.Source) (hT : Shp f.Target) : M.impl_Functor_opposite f = some (opF f) := by
  unfold M.impl_Functor_opposite
  rw [opposite_eq hS, opposite_eq hT]
  show (M.impl_functor _ _ _ _).bind _ = _
  rw [functor_eq (opC_small hS) (opC_small hT) h.s3 h.s4]; rfl

end Go.Gx

/- The law of PairsProfunctor. -/
namespace Go.Gx
open Classical
set_option maxHeartbeats 1000000

theorem opC_cmp {c : XCategory} {i j : Int} (i0 : 0 ≤ i) (i1 : i < (c.From.length : Int)) (j0 : 0 ≤ j) (j1 : j < (c.From.length : Int)) : cmp (opC c) i j = cmp c j i := by
  show el (el (tab (c.From.length : Int) fun i => tab (c.From.length : Int) fun j => cmp c j i) i) j = _
  rw [el_tab i0 i1, el_tab j0 j1]
theorem opC_shp {c : XCategory} (h : Shp c) : Shp (opC c) := by
  have lto := h.lto
  have e : ((opC c).From.length : Int) = (c.From.length : Int) := lto
  refine ⟨h.n0, h.n8, by rw [e]; exact h.m40, e.symm, h.lid, ?_, fun i i0 i1 => h.to_in i i0 (by omega), fun i i0 i1 => h.from_in i i0 (by omega), fun i i0 i1 => ?_, h.id_to, h.id_from, fun i i0 i1 => ?_, ?_, ?_, ?_, ?_⟩
  · rw [e]
    show ((tab (c.From.length : Int) fun i => tab (c.From.length : Int) fun j => cmp c j i).length : Int) = _
    rw [tab_length]; omega
  · have := h.id_in i i0 i1
    exact ⟨this.1, by rw [e]; exact this.2⟩
  · rw [e]
    show ((el (tab (c.From.length : Int) fun i => tab (c.From.length : Int) fun j => cmp c j i) i).length : Int) = _
    rw [el_tab i0 (by omega), tab_length]; omega
  · intro i j i0 i1 j0 j1 hne
    rw [opC_cmp i0 (by omega) j0 (by omega)]
    exact h.no j i j0 (by omega) i0 (by omega) (fun x => hne x.symm)
  · intro i j i0 i1 j0 j1 he
    rw [opC_cmp i0 (by omega) j0 (by omega), e]
    exact h.yes j i j0 (by omega) i0 (by omega) he.symm
  · intro i j i0 i1 j0 j1 he
    rw [opC_cmp i0 (by omega) j0 (by omega)]
    exact h.cto j i j0 (by omega) i0 (by omega) he.symm
  · intro i j i0 i1 j0 j1 he
    rw [opC_cmp i0 (by omega) j0 (by omega)]
    exact h.cfrom j i j0 (by omega) i0 (by omega) he.symm

end Go.Gx

/- The law of LeftAdjointOf. -/
namespace Go.Gx
open Classical
set_option maxHeartbeats 1000000

theorem opC_nofault {c : XCategory} (h : IsCat c) : NoFault (opC c) := by
  have hS := h.1.shp
  have lto := hS.lto
  have eF : ((opC c).From.length : Int) = (c.From.length : Int) := lto
  refine ⟨fun f f0 f1 => ?_, fun f g k f0 f1 g0 g1 k0 k1 e1 e2 => ?_⟩
  · have f1' : f < (c.From.length : Int) := by omega
    have a := hS.to_in f f0 f1'
    have b := hS.from_in f f0 f1'
    have ia := hS.id_in _ a.1 a.2
    have ib := hS.id_in _ b.1 b.2
    have q := h.2.1 f f0 f1'
    exact ⟨by rw [show (opC c).From = c.To from rfl, show (opC c).Identity = c.Identity from rfl, opC_cmp ia.1 ia.2 f0 f1']; exact q.2, by rw [show (opC c).To = c.From from rfl, show (opC c).Identity = c.Identity from rfl, opC_cmp f0 f1' ib.1 ib.2]; exact q.1⟩
  · have f1' : f < (c.From.length : Int) := by omega
    have g1' : g < (c.From.length : Int) := by omega
    have k1' : k < (c.From.length : Int) := by omega
    have e1 : el c.From f = el c.To g := e1
    have e2 : el c.From g = el c.To k := e2
    have y1 := hS.yes g f g0 g1' f0 f1' e1.symm
    have y2 := hS.yes k g k0 k1' g0 g1' e2.symm
    rw [opC_cmp f0 f1' g0 g1', opC_cmp g0 g1' k0 k1', opC_cmp y1.1 y1.2 k0 k1', opC_cmp f0 f1' y2.1 y2.2]
    exact (h.2.2 k g f k0 k1' g0 g1' f0 f1' e2.symm e1.symm).symm

theorem Shp.shape {c : XCategory} (h : Shp c) : Shape c := by
  refine ⟨h.n0, h.n8, h.m40, h.lto, h.lid, h.lco, fun i i0 i1 => h.from_in i i0 i1, fun i i0 i1 => h.to_in i i0 (by have := h.lto; omega), fun i i0 i1 => h.id_in i i0 (by have := h.lid; omega), fun i i0 i1 => ⟨h.id_from i i0 i1, h.id_to i i0 i1⟩, fun i i0 i1 => ⟨h.row i i0 i1, fun j j0 j1 => ⟨fun e => h.no i j i0 i1 j0 j1 e, fun e => ?_⟩⟩⟩
  have y := h.yes i j i0 i1 j0 j1 e
  exact ⟨y.1, y.2, h.cfrom i j i0 i1 j0 j1 e, h.cto i j i0 i1 j0 j1 e⟩
theorem opC_cat {c : XCategory} (h : IsCat c) : IsCat (opC c) := ⟨(opC_shp h.1.shp).shape, opC_nofault h⟩
theorem opF_fun {f : XFunctor} (h : IsFun f) : IsFun (opF f) := by
  obtain ⟨hS, hT, hF⟩ := h
  have hs := hS.1.shp
  have ht := hT.1.shp
  have slt := hs.lto
  have tlt := ht.lto
  have la := hF.la
  have eS : ((opC f.Source).From.length : Int) = (f.Source.From.length : Int) := slt
  have eT : ((opC f.Target).From.length : Int) = (f.Target.From.length : Int) := tlt
  refine ⟨opC_cat hS, opC_cat hT, hF.lo, ?_, hF.ino, ?_, fun a a0 a1 => hF.ato a a0 (by show a < (f.Source.From.length : Int); have a1 : a < ((opC f.Source).From.length : Int) := a1; omega), fun a a0 a1 => hF.afrom a a0 (by have a1 : a < ((opC f.Source).From.length : Int) := a1; omega), hF.aid, fun a b a0 a1 b0 b1 e => ?_⟩
  · show (f.Arrows.length : Int) = ((opC f.Source).From.length : Int)
    omega
  · intro i i0 i1
    have := hF.ina i i0 i1
    exact ⟨this.1, by show el f.Arrows i < ((opC f.Target).From.length : Int); omega⟩
  · have a1 : a < (f.Source.From.length : Int) := by have a1 : a < ((opC f.Source).From.length : Int) := a1; omega
    have b1 : b < (f.Source.From.length : Int) := by have b1 : b < ((opC f.Source).From.length : Int) := b1; omega
    have ia := hF.ina a a0 (by omega)
    have ib := hF.ina b b0 (by omega)
    have e : el f.Source.From a = el f.Source.To b := e
    show el f.Arrows (cmp (opC f.Source) a b) = cmp (opC f.Target) (el f.Arrows a) (el f.Arrows b)
    rw [opC_cmp a0 a1 b0 b1, opC_cmp ia.1 ia.2 ib.1 ib.2]
    exact hF.acmp b a b0 b1 a0 a1 e.symm

end Go.Gx

/- Plain laws: cones. -/
namespace Go.Gx
open Classical
set_option maxHeartbeats 1000000

structure SmallN (p : XCone) : Prop where
  s1 : Small p.Legs
structure FitsN (p : XCone) : Prop where
  f1 : Fits p.Legs
theorem fitsN {p : XCone} (h : R.XCone p) : FitsN p := ⟨h.2.1⟩
theorem szCone_r {p : XCone} {n : Int} (h0 : 0 ≤ n) (h1 : n ≤ 1048576) (h : FitsN p) :
    Ret (M.laws_szCone p n) fun r => (r < 0 ∧ r = -1) ∨ (0 ≤ r ∧ r ≤ n ∧ SmallN p) := by
  obtain ⟨g1⟩ := h
  unfold M.laws_szCone
  simp only [decide_eq_true_eq]
  (repeat' (first | with_reducible refine Ret.pos ‹_› ?_ | with_reducible refine Ret.neg ‹_› ?_ | with_reducible refine Ret.neg (Int.lt_irrefl _) ?_ | with_reducible refine Ret.ite (fun _ => ?_) (fun _ => ?_) | with_reducible refine Ret.idx ?_ ?_ ?_ | with_reducible refine Ret.chk ?_ ?_ | with_reducible refine hn3 ?_ | with_reducible refine hn2 ?_ | with_reducible refine hn1 ?_ | with_reducible refine hn3 _ ?_ | with_reducible refine hn2 _ ?_ | with_reducible refine hn1 _ ?_ | with_reducible refine Ret.bind (szInt64S_r ?_ ?_ ?_) fun v hv => ?_ | with_reducible refine Ret.some ?_))
  all_goals first | assumption | omega | (refine Or.inl ⟨by omega, rfl⟩) | (refine Or.inr ⟨by omega, by omega, ⟨?_⟩⟩ <;> grind)
theorem toCone_eq {p : XCone} (h : SmallN p) : M.laws_toCone p = some p := by
  unfold M.laws_toCone
  rw [toInt64S_eq h.s1]; rfl
theorem eqCone_refl {p : XCone} (h : SmallN p) : M.laws_eqCone p p = some true := by
  unfold M.laws_eqCone
  rw [eqInt64S_refl h.s1]; simp

/-- p is a cone of G. -/
structure ConP (G : XFunctor) (p : XCone) : Prop where
  ax : 0 ≤ p.Apex ∧ p.Apex < G.Target.Objects
  ln : (p.Legs.length : Int) = (G.Objects.length : Int)
  il : In (G.Target.From.length : Int) p.Legs
  en : ∀ j, 0 ≤ j → j < (p.Legs.length : Int) → el G.Target.From (el p.Legs j) = p.Apex ∧ el G.Target.To (el p.Legs j) = el G.Objects j
  cm : ∀ a, 0 ≤ a → a < (G.Arrows.length : Int) → cmp G.Target (el p.Legs (el G.Source.From a)) (el G.Arrows a) = el p.Legs (el G.Source.To a)

section
variable {G : XFunctor} {p : XCone}
theorem ConP.at (h : ConP G p) {j : Int} (j0 : 0 ≤ j) (j1 : j < (p.Legs.length : Int)) : Ar G.Target (el p.Legs j) p.Apex (el G.Objects j) :=
  ⟨(h.il j j0 j1).1, (h.il j j0 j1).2, (h.en j j0 j1).1, (h.en j j0 j1).2⟩

theorem l12Cone_eq (h : IsFun G) (sp : SmallN p) : M.spec_l12Cone G p = some (decide (ConP G p)) := by
  apply Ret.eq
  have hs := h.1.1.shp
  have ht := h.2.1.1.shp
  have sp' := sp.s1
  unfold Small at sp'
  have s40 := hs.m40
  have lt := ht.lto
  have ls := hs.lto
  have lo := h.2.2.lo
  have la := h.2.2.la
  have s8 := hs.n8
  unfold M.spec_l12Cone
  refine Ret.call (l02Object_eq _ _) (Ret.ite (fun e1 => ?_) (fun e1 => Ret.some ?_))
  · have e1 := of_decide_eq_true e1
    refine Ret.ite (fun e2 => Ret.some ?_) (fun e2 => ?_)
    · rw [decide_eq_false (fun z : ConP G p => bne_iff_ne.1 e2 z.ln)]
    · have e2 : (p.Legs.length : Int) = (G.Objects.length : Int) := Decidable.byContradiction fun z => e2 (bne_iff_ne.2 z)
      refine Ret.call (l01Map_eq sp.s1) (Ret.ite (fun e3 => ?_) (fun e3 => Ret.some ?_))
      · have e3 := of_decide_eq_true e3
        refine Ret.all (p.Legs.length : Int) (fun j => el G.Target.From (el p.Legs j) = p.Apex ∧ el G.Target.To (el p.Legs j) = el G.Objects j) (by omega) (by omega) ?_ ?_
        · intro j next j0 j1 hp hn
          have r := e3 j j0 j1
          rw [if_pos (decide_eq_true j1)]
          refine Ret.idx j0 j1 (Ret.idx r.1 r.2 (Ret.ite (fun q => Ret.some ?_) (fun q => Ret.idx r.1 (by omega) (Ret.idx j0 (by omega) (Ret.ite (fun q2 => Ret.some ?_) (fun q2 => hn ⟨?_, ?_⟩))))))
          · rw [decide_eq_false (fun z : ConP G p => bne_iff_ne.1 q (z.en j j0 j1).1)]
          · rw [decide_eq_false (fun z : ConP G p => bne_iff_ne.1 q2 (z.en j j0 j1).2)]
          · exact Decidable.byContradiction fun z => q (bne_iff_ne.2 z)
          · exact Decidable.byContradiction fun z => q2 (bne_iff_ne.2 z)
        · intro next hp
          rw [if_neg (by simp)]
          refine Ret.all (G.Arrows.length : Int) (fun a => cmp G.Target (el p.Legs (el G.Source.From a)) (el G.Arrows a) = el p.Legs (el G.Source.To a)) (by omega) (by omega) ?_ ?_
          · intro a nx a0 a1 hq hn2
            have s := hs.from_in a a0 (by omega)
            have t := hs.to_in a a0 (by omega)
            have r := e3 _ s.1 (by omega)
            have ia := h.2.2.ina a a0 a1
            rw [if_pos (decide_eq_true a1)]
            refine Ret.idx a0 (by omega) (Ret.idx s.1 (by omega) (Ret.idx a0 a1 (Ret.call (l02Then_in ht r ia) (Ret.idx a0 (by omega) (Ret.idx t.1 (by omega) (Ret.ite (fun q => Ret.some ?_) (fun q => hn2 ?_)))))))
            · rw [decide_eq_false (fun z : ConP G p => bne_iff_ne.1 q (z.cm a a0 a1))]
            · exact Decidable.byContradiction fun z => q (bne_iff_ne.2 z)
          · intro nx hq
            rw [if_neg (by simp)]
            exact Ret.some (decide_eq_true ⟨e1, e2, e3, hp, hq⟩).symm
      · rw [decide_eq_false (fun z : ConP G p => e3 (decide_eq_true z.il))]
  · rw [decide_eq_false (fun z : ConP G p => e1 (decide_eq_true z.ax))]

theorem isCone_eq (h : IsFun G) (sp : SmallN p) : M.impl_isCone G p = some (decide (ConP G p)) := by
  apply Ret.eq
  have hs := h.1.1.shp
  have ht := h.2.1.1.shp
  have sp' := sp.s1
  unfold Small at sp'
  have s40 := hs.m40
  have t40 := ht.m40
  have t0 := ht.n0
  have t8 := ht.n8
  have lt := ht.lto
  have ls := hs.lto
  have lo := h.2.2.lo
  have la := h.2.2.la
  have s8 := hs.n8
  unfold M.impl_isCone M.impl_Category_arrows
  refine Ret.call (inR_eq t0 (by omega)) (Ret.ite (fun e1 => ?_) (fun e1 => Ret.some ?_))
  · have e1 := of_decide_eq_true e1
    refine Ret.ite (fun e2 => Ret.some ?_) (fun e2 => ?_)
    · rw [decide_eq_false (fun z : ConP G p => bne_iff_ne.1 e2 z.ln)]
    · have e2 : (p.Legs.length : Int) = (G.Objects.length : Int) := Decidable.byContradiction fun z => e2 (bne_iff_ne.2 z)
      rw [Option.bind_some]
      refine Ret.call (within_eq sp.s1 (by omega) (by omega)) (Ret.ite (fun e3 => ?_) (fun e3 => Ret.some ?_))
      · have e3 := of_decide_eq_true e3
        refine Ret.all (p.Legs.length : Int) (fun j => el G.Target.From (el p.Legs j) = p.Apex ∧ el G.Target.To (el p.Legs j) = el G.Objects j) (by omega) (by omega) ?_ ?_
        · intro j next j0 j1 hp hn
          have r := e3 j j0 j1
          rw [if_pos (decide_eq_true j1)]
          refine Ret.idx j0 j1 (Ret.call (ends_eq r.1 r.2 (by omega)) (Ret.idx j0 (by omega) (Ret.ite (fun q => Ret.some ?_) (fun q => hn ?_))))
          · rw [decide_eq_false]
            intro z
            have q := beq_iff_eq.1 q
            dsimp only at q
            rw [(z.en j j0 j1).1, (z.en j j0 j1).2] at q
            simp at q
          · apply Decidable.byContradiction
            intro z
            apply q
            rw [beq_iff_eq, Bool.eq_false_iff]
            intro w
            dsimp only at w
            rw [Bool.and_eq_true, beq_iff_eq, beq_iff_eq] at w
            exact z w
        · intro next hp
          rw [if_neg (by simp)]
          refine Ret.all (G.Arrows.length : Int) (fun a => cmp G.Target (el p.Legs (el G.Source.From a)) (el G.Arrows a) = el p.Legs (el G.Source.To a)) (by omega) (by omega) ?_ ?_
          · intro a nx a0 a1 hq hn2
            have s := hs.from_in a a0 (by omega)
            have t := hs.to_in a a0 (by omega)
            have r := e3 _ s.1 (by omega)
            have ia := h.2.2.ina a a0 a1
            rw [if_pos (decide_eq_true a1)]
            refine Ret.idx a0 a1 (Ret.idx a0 (by omega) (Ret.idx s.1 (by omega) (Ret.call (then_in ht r ia) (Ret.idx a0 (by omega) (Ret.idx t.1 (by omega) (Ret.ite (fun q => Ret.some ?_) (fun q => hn2 ?_)))))))
            · rw [decide_eq_false (fun z : ConP G p => bne_iff_ne.1 q (z.cm a a0 a1))]
            · exact Decidable.byContradiction fun z => q (bne_iff_ne.2 z)
          · intro nx hq
            rw [if_neg (by simp)]
            exact Ret.some (decide_eq_true ⟨e1, e2, e3, hp, hq⟩).symm
      · rw [decide_eq_false (fun z : ConP G p => e3 (decide_eq_true z.il))]
  · rw [decide_eq_false (fun z : ConP G p => e1 (decide_eq_true z.ax))]
end
end Go.Gx
