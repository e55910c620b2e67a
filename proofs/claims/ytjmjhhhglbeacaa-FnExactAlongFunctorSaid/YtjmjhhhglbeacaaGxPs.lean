/- Plain laws: set functors. -/
import Derived.Test.YtjmjhhhglbeacaaGxPu
import Derived.Test.YtjmjhhhglbeacaaGxL10M
namespace Go.Gx
open Classical
set_option maxHeartbeats 4000000

structure SmallG (F : XSetFunctor) : Prop where
  s1 : SmallC F.Shape
  s2 : Small F.Sizes
  s3 : Small F.Actions
  s4 : ∀ r ∈ F.Actions, Small r
structure FitsG (F : XSetFunctor) : Prop where
  f1 : FitsC F.Shape
  f2 : Fits F.Sizes
  f3 : Fits F.Actions
  f4 : ∀ r ∈ F.Actions, Fits r
theorem fitsG {F : XSetFunctor} (h : R.XSetFunctor F) : FitsG F := ⟨fitsC h.1, h.2.1.1, h.2.2.1, fun r hr => (h.2.2.2 r hr).1⟩

theorem szSetFunctor_r {F : XSetFunctor} {n : Int} (h0 : 0 ≤ n) (h1 : n ≤ 1048576) (h : FitsG F) :
    Ret (M.laws_szSetFunctor F n) fun r => (r < 0 ∧ r = -1) ∨ (0 ≤ r ∧ r ≤ n ∧ SmallG F) := by
  obtain ⟨g1, g2, g3, g4⟩ := h
  unfold M.laws_szSetFunctor
  simp only [decide_eq_true_eq]
  (repeat' (first | with_reducible refine Ret.pos ‹_› ?_ | with_reducible refine Ret.neg ‹_› ?_ | with_reducible refine Ret.neg (Int.lt_irrefl _) ?_ | with_reducible refine Ret.ite (fun _ => ?_) (fun _ => ?_) | with_reducible refine Ret.idx ?_ ?_ ?_ | with_reducible refine Ret.chk ?_ ?_ | with_reducible refine hn3 ?_ | with_reducible refine hn2 ?_ | with_reducible refine hn1 ?_ | with_reducible refine hn3 _ ?_ | with_reducible refine hn2 _ ?_ | with_reducible refine hn1 _ ?_ | with_reducible refine Ret.bind (szInt64S_r ?_ ?_ ?_) fun v hv => ?_ | with_reducible refine Ret.bind (szInt64SS_r ?_ ?_ ?_ ?_) fun v hv => ?_ | with_reducible refine Ret.bind (szCategory_r ?_ ?_ ?_) fun v hv => ?_ | with_reducible refine Ret.some ?_))
  all_goals first | assumption | omega | (refine Or.inl ⟨by omega, rfl⟩) | (refine Or.inr ⟨by omega, by omega, ⟨?_, ?_, ?_, ?_⟩⟩ <;> grind)

theorem toSetFunctor_eq {F : XSetFunctor} (h : SmallG F) : M.laws_toSetFunctor F = some F := by
  unfold M.laws_toSetFunctor
  rw [toCategory_eq h.s1, toInt64S_eq h.s2, toInt64SS_eq h.s3 h.s4]; rfl
theorem l19Own_eq {F : XSetFunctor} (h : SmallG F) : M.spec_l19Own F = some F := by
  unfold M.spec_l19Own
  rw [l02Own_eq h.s1, own_eq h.s2, own2_eq h.s3 h.s4]; rfl
theorem Gcopy_eq {F : XSetFunctor} (h : SmallG F) : M.impl_SetFunctor_copy F = some F := by
  unfold M.impl_SetFunctor_copy
  rw [copy_eq h.s1, clone_eq h.s2, clones_eq h.s3 h.s4]; rfl
theorem eqSetFunctor_refl {F : XSetFunctor} (h : SmallG F) : M.laws_eqSetFunctor F F = some true := by
  unfold M.laws_eqSetFunctor
  rw [eqCategory_refl h.s1, eqInt64S_refl h.s2, eqInt64SS_refl h.s3 h.s4]; simp

theorem mh_G {F : XSetFunctor} (h : SmallG F) : MH 2199028498432 M.laws_markSetFunctor M.laws_heldSetFunctor (fun x y => y.Shape.Objects = x.Shape.Objects) F := by
  intro k h0 h1
  obtain ⟨n1, l1, a1, b1, e1, f1, g1⟩ := mh_C h.s1 k h0 (by omega)
  obtain ⟨n2, l2, a2, b2, e2, f2, _⟩ := mh_S h.s2 (k + n1) (by omega) (by omega)
  obtain ⟨n3, l3, a3, b3, e3, f3, _⟩ := mh_SS h.s3 h.s4 (k + n1 + n2) (by omega) (by omega)
  refine ⟨n1 + n2 + n3, ⟨l1, l2, l3⟩, by omega, by omega, ?_, ?_, g1⟩
  · unfold M.laws_markSetFunctor
    simp only [e1, e2, e3, Option.bind_some, Option.some.injEq, Prod.mk.injEq]
    refine ⟨by omega, ?_⟩
    rw [← g1]
  · unfold M.laws_heldSetFunctor
    simp only [f1, f2, f3, Option.bind_some, decide_eq_true_eq]
    rw [if_neg (by omega), if_neg (by omega), if_neg (by omega)]
    simp only [Option.some.injEq]; omega

/-! ### which are set functors -/
def ActOk (F : XSetFunctor) (a : Int) : Prop := ((el F.Actions a).length : Int) = el F.Sizes (el F.Shape.From a) ∧ In (el F.Sizes (el F.Shape.To a)) (el F.Actions a)
structure ShpG (F : XSetFunctor) : Prop where
  cat : IsCat F.Shape
  ls : (F.Sizes.length : Int) = F.Shape.Objects
  la : (F.Actions.length : Int) = (F.Shape.From.length : Int)
  siz : ∀ i, 0 ≤ i → i < (F.Sizes.length : Int) → 0 ≤ el F.Sizes i ∧ el F.Sizes i ≤ 16
  act : ∀ a, 0 ≤ a → a < (F.Actions.length : Int) → ActOk F a

theorem l19Shape_eq {F : XSetFunctor} (h : SmallG F) : M.spec_l19Shape F = some (decide (ShpG F)) := by
  apply Ret.ask
  unfold M.spec_l19Shape
  simp only [bne_iff_ne, ne_eq]
  refine Ret.call (l02Is_eq h.s1) (Ret.ite (fun h1 => ?_) (fun h1 => Ret.some ⟨(fun h => by cases h), fun e => absurd (decide_eq_true e.cat) h1⟩))
  have h1 := of_decide_eq_true h1
  have hS := h1.1.shp
  have m40 := hS.m40
  refine Ret.ite (fun h2 => Ret.some ⟨(fun h => by cases h), fun e => absurd e.ls h2⟩) (fun h2 => ?_)
  refine Ret.ite (fun h3 => Ret.some ⟨(fun h => by cases h), fun e => absurd e.la h3⟩) (fun h3 => ?_)
  have h2 := Decidable.not_not.1 h2
  have h3 := Decidable.not_not.1 h3
  have n8 := hS.n8
  refine Ret.all (F.Sizes.length : Int) (fun i => 0 ≤ el F.Sizes i ∧ el F.Sizes i ≤ 16) (by omega) (by omega) ?_ ?_
  · intro i next hi0 hi1 hp hn1
    rw [if_pos (decide_eq_true hi1)]
    refine Ret.idx hi0 hi1 (Ret.call (l01In_eq _ _ _) (Ret.ite (fun hb => hn1 (by simpa using hb)) (fun hb => Ret.some ⟨(fun h => by cases h), fun e => absurd (by simpa using e.siz i hi0 hi1) hb⟩)))
  · intro next hp1
    rw [if_neg (by simp)]
    refine Ret.all (F.Actions.length : Int) (fun a => ActOk F a) (by omega) (by omega) ?_ ?_
    · intro a next ha0 ha1 hp hn1
      rw [if_pos (decide_eq_true ha1)]
      have x1 := hS.from_in a ha0 (by omega)
      have x2 := hS.to_in a ha0 (by omega)
      have lt := hS.lto
      refine Ret.idx ha0 ha1 (Ret.idx ha0 (by omega) (Ret.idx x1.1 (by omega) (Ret.ite (fun hb => Ret.some ⟨(fun h => by cases h), fun e => absurd (e.act a ha0 ha1).1 hb⟩) (fun hb => ?_))))
      refine Ret.idx ha0 (by omega) (Ret.idx x2.1 (by omega) (Ret.call (l01Map_eq (h.s4 _ (el_mem ha0 ha1))) (Ret.ite (fun hc => hn1 ⟨Decidable.not_not.1 hb, of_decide_eq_true hc⟩) (fun hc => Ret.some ⟨(fun h => by cases h), fun e => absurd (decide_eq_true (e.act a ha0 ha1).2) hc⟩))))
    · intro next hp
      rw [if_neg (by simp)]
      exact Ret.some ⟨fun _ => ⟨h1, h2, h3, hp1, hp⟩, fun _ => rfl⟩

theorem isMapOf_eq {l : List Int} {n m : Int} (h : Small l) (h0 : -4611686018427387904 ≤ m) (h1 : m ≤ 4611686018427387904) : M.impl_isMapOf l n m = some (decide ((l.length : Int) = n ∧ In m l)) := by
  apply Ret.ask
  unfold M.impl_isMapOf
  simp only [beq_iff_eq]
  refine Ret.ite (fun he => Ret.call (within_eq h h0 h1) (Ret.some ?_)) (fun he => Ret.some ⟨(fun h => by cases h), fun e => absurd e.1 he⟩)
  rw [decide_eq_true_iff]
  exact ⟨fun x => ⟨he, x⟩, fun x => x.2⟩

theorem isShapeG_eq {F : XSetFunctor} (h : SmallG F) : M.impl_SetFunctor_isShape F = some (decide (ShpG F)) := by
  apply Ret.ask
  unfold M.impl_SetFunctor_isShape M.impl_Category_arrows
  simp only [bne_iff_ne, ne_eq, Option.bind_some]
  refine Ret.call (isCategory_eq h.s1) (Ret.ite (fun h1 => ?_) (fun h1 => Ret.some ⟨(fun h => by cases h), fun e => absurd (decide_eq_true e.cat) h1⟩))
  have h1 := of_decide_eq_true h1
  have hS := h1.1.shp
  have m40 := hS.m40
  have n8 := hS.n8
  refine Ret.ite (fun h2 => Ret.some ⟨(fun h => by cases h), fun e => absurd e.ls h2⟩) (fun h2 => ?_)
  have h2 := Decidable.not_not.1 h2
  refine Ret.call (within_eq h.s2 (by omega) (by omega)) (Ret.ite (fun h4 => ?_) (fun h4 => Ret.some ⟨(fun h => by cases h), fun e => absurd (decide_eq_true (fun i i0 i1 => by have := e.siz i i0 i1; omega)) h4⟩))
  have h4 := of_decide_eq_true h4
  refine Ret.ite (fun h3 => Ret.some ⟨(fun h => by cases h), fun e => absurd e.la h3⟩) (fun h3 => ?_)
  have h3 := Decidable.not_not.1 h3
  have hp1 : ∀ i, 0 ≤ i → i < (F.Sizes.length : Int) → 0 ≤ el F.Sizes i ∧ el F.Sizes i ≤ 16 := fun i i0 i1 => by have := h4 i i0 i1; omega
  refine Ret.all (F.Actions.length : Int) (fun a => ActOk F a) (by omega) (by omega) ?_ ?_
  · intro a next ha0 ha1 hp hn1
    rw [if_pos (decide_eq_true ha1)]
    have x1 := hS.from_in a ha0 (by omega)
    have x2 := hS.to_in a ha0 (by omega)
    have lt := hS.lto
    have z := hp1 _ x2.1 (by omega)
    refine Ret.idx ha0 ha1 (Ret.idx ha0 (by omega) (Ret.idx x1.1 (by omega) (Ret.idx ha0 (by omega) (Ret.idx x2.1 (by omega) (Ret.call (isMapOf_eq (h.s4 _ (el_mem ha0 ha1)) (by omega) (by omega)) (Ret.ite (fun hc => hn1 (show ActOk F a from of_decide_eq_true (p := ((el F.Actions a).length : Int) = el F.Sizes (el F.Shape.From a) ∧ In (el F.Sizes (el F.Shape.To a)) (el F.Actions a)) hc)) (fun hc => Ret.some ⟨(fun h => by cases h), fun e => absurd (e.act a ha0 ha1) (fun x => hc (decide_eq_true x))⟩)))))))
  · intro next hp
    rw [if_neg (by simp)]
    exact Ret.some ⟨fun _ => ⟨h1, h2, h3, hp1, hp⟩, fun _ => rfl⟩

/-- The image of e under the action of a. -/
abbrev act (F : XSetFunctor) (a e : Int) : Int := el (el F.Actions a) e
def UnitG (F : XSetFunctor) : Prop := ∀ x, 0 ≤ x → x < F.Shape.Objects → ∀ e, 0 ≤ e → e < el F.Sizes x → act F (el F.Shape.Identity x) e = e
def CompG (F : XSetFunctor) : Prop := ∀ f, 0 ≤ f → f < (F.Shape.From.length : Int) → ∀ g, 0 ≤ g → g < (F.Shape.From.length : Int) → el F.Shape.To f = el F.Shape.From g →
  ∀ e, 0 ≤ e → e < el F.Sizes (el F.Shape.From f) → act F (cmp F.Shape f g) e = act F g (act F f e)

theorem l19Fault_r {F : XSetFunctor} (h : ShpG F) : Ret (M.spec_l19Fault F) fun r => r.1 = 0 ↔ UnitG F ∧ CompG F := by
  unfold M.spec_l19Fault
  obtain ⟨hc, ls, la, siz, hact⟩ := h
  have hS := hc.1.shp
  have m40 := hS.m40
  have n0 := hS.n0
  have n8 := hS.n8
  have lid := hS.lid
  have lto := hS.lto
  have lco := hS.lco
  simp only [decide_eq_true_eq, bne_iff_ne, ne_eq]
  refine Ret.all F.Shape.Objects (fun x => ∀ e, 0 ≤ e → e < el F.Sizes x → act F (el F.Shape.Identity x) e = e) n0 (by omega) ?_ ?_
  · intro x next x0 x1 hp hn1
    rw [if_pos x1]
    have z := siz x x0 (by omega)
    have i1 := hS.id_in x x0 x1
    have i2 := hS.id_from x x0 x1
    have i3 := (hact _ i1.1 (by omega)).1
    rw [i2] at i3
    refine Ret.all (el F.Sizes x) (fun e => act F (el F.Shape.Identity x) e = e) z.1 (by omega) ?_ ?_
    · intro e next e0 e1 hq hn2
      refine Ret.idx x0 (by omega) ?_
      rw [if_pos e1]
      refine Ret.idx x0 (by omega) (Ret.idx i1.1 (by omega) (Ret.idx e0 (by omega) (Ret.ite (fun hb => Ret.some ?_) (fun hb => hn2 (Decidable.not_not.1 hb)))))
      exact ⟨(fun h => by cases h), fun hN => absurd (hN.1 x x0 x1 e e0 e1) hb⟩
    · intro next hq
      refine Ret.idx x0 (by omega) ?_
      rw [if_neg (by omega)]
      exact hn1 hq
  · intro next hpU
    rw [if_neg (by omega)]
    refine Ret.all (F.Shape.From.length : Int) (fun f => ∀ g, 0 ≤ g → g < (F.Shape.From.length : Int) → el F.Shape.To f = el F.Shape.From g → ∀ e, 0 ≤ e → e < el F.Sizes (el F.Shape.From f) → act F (cmp F.Shape f g) e = act F g (act F f e)) (by omega) (by omega) ?_ ?_
    · intro f next f0 f1 hp hn1
      rw [if_pos f1]
      have x1 := hS.from_in f f0 f1
      have z1 := siz _ x1.1 (by omega)
      have a1 := hact f f0 (by omega)
      refine Ret.all (F.Shape.From.length : Int) (fun g => el F.Shape.To f = el F.Shape.From g → ∀ e, 0 ≤ e → e < el F.Sizes (el F.Shape.From f) → act F (cmp F.Shape f g) e = act F g (act F f e)) (by omega) (by omega) ?_ ?_
      · intro g next g0 g1 hq hn2
        rw [if_pos g1]
        have rw1 := hS.row f f0 f1
        have a2 := hact g g0 (by omega)
        refine Ret.idx f0 (by omega) (Ret.idx g0 g1 (Ret.ite (fun hne => hn2 (fun he => absurd he hne)) (fun hm => ?_)))
        have hm := Decidable.not_not.1 hm
        have c1 : 0 ≤ el (el F.Shape.Composites f) g ∧ el (el F.Shape.Composites f) g < (F.Shape.From.length : Int) := hS.yes f g f0 f1 g0 g1 hm
        have c2 : el F.Shape.From (el (el F.Shape.Composites f) g) = el F.Shape.From f := hS.cfrom f g f0 f1 g0 g1 hm
        have a3 := (hact _ c1.1 (by omega)).1
        rw [c2] at a3
        refine Ret.all (el F.Sizes (el F.Shape.From f)) (fun e => act F (cmp F.Shape f g) e = act F g (act F f e)) z1.1 (by omega) ?_ ?_
        · intro e next e0 e1 hr hn3
          have b1 : 0 ≤ el (el F.Actions f) e ∧ el (el F.Actions f) e < el F.Sizes (el F.Shape.To f) := a1.2 e e0 (by have := a1.1; omega)
          rw [hm] at b1
          have b2 := a2.1
          have a4 := a1.1
          refine Ret.idx f0 f1 (Ret.idx x1.1 (by omega) ?_)
          rw [if_pos e1]
          refine Ret.idx f0 (by omega) (Ret.idx g0 (by omega) (Ret.idx c1.1 (by omega) (Ret.idx e0 (by omega) (Ret.idx g0 (by omega) (Ret.idx f0 (by omega) (Ret.idx e0 (by omega) (Ret.idx b1.1 (by omega) (Ret.ite (fun hb => Ret.some ?_) (fun hb => hn3 (Decidable.not_not.1 hb))))))))))
          exact ⟨(fun h => by cases h), fun hN => absurd (hN.2 f f0 f1 g g0 g1 hm e e0 e1) hb⟩
        · intro next hr
          refine Ret.idx f0 f1 (Ret.idx x1.1 (by omega) ?_)
          rw [if_neg (by omega)]
          exact hn2 fun _ => hr
      · intro next hq
        rw [if_neg (by omega)]
        exact hn1 hq
    · intro next hp
      rw [if_neg (by omega)]
      exact Ret.some ⟨fun _ => ⟨hpU, hp⟩, fun _ => rfl⟩

theorem faultG_r {F : XSetFunctor} (h : ShpG F) : Ret (M.impl_SetFunctor_fault F) fun r => r.1 = 0 ↔ UnitG F ∧ CompG F := by
  unfold M.impl_SetFunctor_fault
  obtain ⟨hc, ls, la, siz, hact⟩ := h
  have hS := hc.1.shp
  have m40 := hS.m40
  have n0 := hS.n0
  have n8 := hS.n8
  have lid := hS.lid
  have lto := hS.lto
  have lco := hS.lco
  simp only [decide_eq_true_eq, bne_iff_ne, ne_eq]
  refine Ret.all (F.Shape.Identity.length : Int) (fun x => ∀ e, 0 ≤ e → e < el F.Sizes x → act F (el F.Shape.Identity x) e = e) (by omega) (by omega) ?_ ?_
  · intro x next x0 x1 hp hn1
    rw [if_pos x1]
    have z := siz x x0 (by omega)
    have i1 := hS.id_in x x0 (by omega)
    have i2 := hS.id_from x x0 (by omega)
    have i3 := (hact _ i1.1 (by omega)).1
    rw [i2] at i3
    refine Ret.idx x0 x1 (Ret.idx i1.1 (by omega) ?_)
    refine Ret.all ((el F.Actions (el F.Shape.Identity x)).length : Int) (fun e => act F (el F.Shape.Identity x) e = e) (by omega) (by omega) ?_ ?_
    · intro e next e0 e1 hq hn2
      rw [if_pos e1]
      refine Ret.idx e0 e1 (Ret.ite (fun hb => Ret.some ?_) (fun hb => hn2 (Decidable.not_not.1 hb)))
      exact ⟨(fun h => by cases h), fun hN => absurd (hN.1 x x0 (by omega) e e0 (by omega)) hb⟩
    · intro next hq
      rw [if_neg (by omega)]
      exact hn1 fun e e0 e1 => hq e e0 (by omega)
  · intro next hpU
    rw [if_neg (by omega)]
    refine Ret.all (F.Shape.Composites.length : Int) (fun f => ∀ g, 0 ≤ g → g < (F.Shape.From.length : Int) → el F.Shape.To f = el F.Shape.From g → ∀ e, 0 ≤ e → e < el F.Sizes (el F.Shape.From f) → act F (cmp F.Shape f g) e = act F g (act F f e)) (by omega) (by omega) ?_ ?_
    · intro f next f0 f1 hp hn1
      rw [if_pos f1]
      have f2 : f < (F.Shape.From.length : Int) := by omega
      have x1 := hS.from_in f f0 f2
      have z1 := siz _ x1.1 (by omega)
      have a1 := hact f f0 (by omega)
      have rw1 := hS.row f f0 f2
      refine Ret.idx f0 f1 ?_
      refine Ret.all ((el F.Shape.Composites f).length : Int) (fun g => el F.Shape.To f = el F.Shape.From g → ∀ e, 0 ≤ e → e < el F.Sizes (el F.Shape.From f) → act F (cmp F.Shape f g) e = act F g (act F f e)) (by omega) (by omega) ?_ ?_
      · intro g next g0 g1 hq hn2
        rw [if_pos g1]
        have g2 : g < (F.Shape.From.length : Int) := by omega
        have a2 := hact g g0 (by omega)
        refine Ret.idx g0 g1 (Ret.ite (fun hne => hn2 (fun he => ?_)) (fun hm0 => ?_))
        · have := (hS.yes f g f0 f2 g0 g2 he).1
          have hne : cmp F.Shape f g < 0 := hne
          omega
        have hm0 : ¬ cmp F.Shape f g < 0 := hm0
        have hm : el F.Shape.To f = el F.Shape.From g := by
          by_cases he : el F.Shape.To f = el F.Shape.From g
          · exact he
          · have := hS.no f g f0 f2 g0 g2 he
            omega
        have c1 : 0 ≤ el (el F.Shape.Composites f) g ∧ el (el F.Shape.Composites f) g < (F.Shape.From.length : Int) := hS.yes f g f0 f2 g0 g2 hm
        have c2 : el F.Shape.From (el (el F.Shape.Composites f) g) = el F.Shape.From f := hS.cfrom f g f0 f2 g0 g2 hm
        have a3 := (hact _ c1.1 (by omega)).1
        rw [c2] at a3
        have a4 := a1.1
        refine Ret.idx f0 (by omega) ?_
        refine Ret.all ((el F.Actions f).length : Int) (fun e => act F (cmp F.Shape f g) e = act F g (act F f e)) (by omega) (by omega) ?_ ?_
        · intro e next e0 e1 hr hn3
          rw [if_pos e1]
          have b1 : 0 ≤ el (el F.Actions f) e ∧ el (el F.Actions f) e < el F.Sizes (el F.Shape.To f) := a1.2 e e0 (by have := a1.1; omega)
          rw [hm] at b1
          have b2 := a2.1
          refine Ret.idx e0 e1 (Ret.idx c1.1 (by omega) (Ret.idx e0 (by omega) (Ret.idx g0 (by omega) (Ret.idx b1.1 (by omega) (Ret.ite (fun hb => Ret.some ?_) (fun hb => hn3 (Decidable.not_not.1 hb)))))))
          exact ⟨(fun h => by cases h), fun hN => absurd (hN.2 f f0 f2 g g0 g2 hm e e0 (by omega)) hb⟩
        · intro next hr
          rw [if_neg (by omega)]
          exact hn2 fun _ e e0 e1 => hr e e0 (by omega)
      · intro next hq
        rw [if_neg (by omega)]
        exact hn1 fun g g0 g1 => hq g g0 (by omega)
    · intro next hp
      rw [if_neg (by omega)]
      exact Ret.some ⟨fun _ => ⟨fun x x0 x1 => hpU x x0 (by omega), fun f f0 f1 => hp f f0 (by omega)⟩, fun _ => rfl⟩

def IsSet (F : XSetFunctor) : Prop := ShpG F ∧ UnitG F ∧ CompG F

theorem l19Is_eq {F : XSetFunctor} (h : SmallG F) : M.spec_l19Is F = some (decide (IsSet F)) := by
  apply Ret.ask
  unfold M.spec_l19Is
  refine Ret.call (l19Shape_eq h) (Ret.ite (fun h1 => ?_) (fun h1 => Ret.some ⟨(fun h => by cases h), fun e => absurd (decide_eq_true e.1) h1⟩))
  have h1 := of_decide_eq_true h1
  refine Ret.bind (l19Fault_r h1) fun r hr => Ret.some ?_
  rw [beq_iff_eq, hr]
  exact ⟨fun x => ⟨h1, x⟩, fun x => x.2⟩

theorem isSetFunctor_eq {F : XSetFunctor} (h : SmallG F) : M.impl_SetFunctor_isSetFunctor F = some (decide (IsSet F)) := by
  apply Ret.ask
  unfold M.impl_SetFunctor_isSetFunctor
  refine Ret.call (isShapeG_eq h) (Ret.ite (fun h1 => ?_) (fun h1 => Ret.some ⟨(fun h => by cases h), fun e => absurd (decide_eq_true e.1) h1⟩))
  have h1 := of_decide_eq_true h1
  refine Ret.bind (faultG_r h1) fun r hr => Ret.some ?_
  rw [beq_iff_eq, hr]
  exact ⟨fun x => ⟨h1, x⟩, fun x => x.2⟩
end Go.Gx
