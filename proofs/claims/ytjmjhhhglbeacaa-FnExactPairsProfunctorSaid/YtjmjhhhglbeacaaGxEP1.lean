/- Laid together: part 1. -/
import Derived.Test.YtjmjhhhglbeacaaGxEP0
import Derived.Test.YtjmjhhhglbeacaaGxEM0
/- Plain laws: set functors. -/
namespace Go.Gx
open Classical
set_option maxHeartbeats 4000000

structure SmallG (F : XSetFunctor) : Prop where
  s1 : SmallC F.Shape
  s2 : Small F.Sizes
  s3 : Small F.Actions
  s4 : ∀ r ∈ F.Actions, Small r
structure FitsG (F : XSetFunctor) : Prop where
  f1 : FitsC F.Shape
  f2 : Fits F.Sizes
  f3 : Fits F.Actions
  f4 : ∀ r ∈ F.Actions, Fits r
theorem fitsG {F : XSetFunctor} (h : R.XSetFunctor F) : FitsG F := ⟨fitsC h.1, h.2.1.1, h.2.2.1, fun r hr => (h.2.2.2 r hr).1⟩

theorem szSetFunctor_r {F : XSetFunctor} {n : Int} (h0 : 0 ≤ n) (h1 : n ≤ 1048576) (h : FitsG F) :
    Ret (M.laws_szSetFunctor F n) fun r => (r < 0 ∧ r = -1) ∨ (0 ≤ r ∧ r ≤ n ∧ SmallG F) := by
  obtain ⟨g1, g2, g3, g4⟩ := h
  unfold M.laws_szSetFunctor
  simp only [decide_eq_true_eq]
  (repeat' (first | with_reducible refine Ret.pos ‹_› ?_ | with_reducible refine Ret.neg ‹_› ?_ | with_reducible refine Ret.neg (Int.lt_irrefl _) ?_ | with_reducible refine Ret.ite (fun _ => ?_) (fun _ => ?_) | with_reducible refine Ret.idx ?_ ?_ ?_ | with_reducible refine Ret.chk ?_ ?_ | with_reducible refine hn3 ?_ | with_reducible refine hn2 ?_ | with_reducible refine hn1 ?_ | with_reducible refine hn3 _ ?_ | with_reducible refine hn2 _ ?_ | with_reducible refine hn1 _ ?_ | with_reducible refine Ret.bind (szInt64S_r ?_ ?_ ?_) fun v hv => ?_ | with_reducible refine Ret.bind (szInt64SS_r ?_ ?_ ?_ ?_) fun v hv => ?_ | with_reducible refine Ret.bind (szCategory_r ?_ ?_ ?_) fun v hv => ?_ | with_reducible refine Ret.some ?_))
  all_goals first | assumption | omega | (refine Or.inl ⟨by omega, rfl⟩) | (refine Or.inr ⟨by omega, by omega, ⟨?_, ?_, ?_, ?_⟩⟩ <;> grind)

theorem toSetFunctor_eq {F : XSetFunctor} (h : SmallG F) : M.laws_toSetFunctor F = some F := by
  unfold M.laws_toSetFunctor
  rw [toCategory_eq h.s1, toInt64S_eq h.s2, toInt64SS_eq h.s3 h.s4]; rfl
theorem eqSetFunctor_refl {F : XSetFunctor} (h : SmallG F) : M.laws_eqSetFunctor F F = some true := by
  unfold M.laws_eqSetFunctor
  rw [eqCategory_refl h.s1, eqInt64S_refl h.s2, eqInt64SS_refl h.s3 h.s4]; simp

theorem mh_G {F : XSetFunctor} (h : SmallG F) : MH 2199028498432 M.laws_markSetFunctor M.laws_heldSetFunctor (fun x y => y.Shape.Objects = x.Shape.Objects) F := by
  intro k h0 h1
  obtain ⟨n1, l1, a1, b1, e1, f1, g1⟩ := mh_C h.s1 k h0 (by omega)
  obtain ⟨n2, l2, a2, b2, e2, f2, _⟩ := mh_S h.s2 (k + n1) (by omega) (by omega)
  obtain ⟨n3, l3, a3, b3, e3, f3, _⟩ := mh_SS h.s3 h.s4 (k + n1 + n2) (by omega) (by omega)
  refine ⟨n1 + n2 + n3, ⟨l1, l2, l3⟩, by omega, by omega, ?_, ?_, g1⟩
  · unfold M.laws_markSetFunctor
    simp only [e1, e2, e3, Option.bind_some, Option.some.injEq, Prod.mk.injEq]
    refine ⟨by omega, ?_⟩
    rw [← g1]
  · unfold M.laws_heldSetFunctor
    simp only [f1, f2, f3, Option.bind_some, decide_eq_true_eq]
    rw [if_neg (by omega), if_neg (by omega), if_neg (by omega)]
    simp only [Option.some.injEq]; omega

/-! ### which are set functors -/
def ActOk (F : XSetFunctor) (a : Int) : Prop := ((el F.Actions a).length : Int) = el F.Sizes (el F.Shape.From a) ∧ In (el F.Sizes (el F.Shape.To a)) (el F.Actions a)
structure ShpG (F : XSetFunctor) : Prop where
  cat : IsCat F.Shape
  ls : (F.Sizes.length : Int) = F.Shape.Objects
  la : (F.Actions.length : Int) = (F.Shape.From.length : Int)
  siz : ∀ i, 0 ≤ i → i < (F.Sizes.length : Int) → 0 ≤ el F.Sizes i ∧ el F.Sizes i ≤ 16
  act : ∀ a, 0 ≤ a → a < (F.Actions.length : Int) → ActOk F a

theorem l19Shape_eq {F : XSetFunctor} (h : SmallG F) : M.spec_l19Shape F = some (decide (ShpG F)) := by
  apply Ret.ask
  unfold M.spec_l19Shape
  simp only [bne_iff_ne, ne_eq]
  refine Ret.call (l02Is_eq h.s1) (Ret.ite (fun h1 => ?_) (fun h1 => Ret.some ⟨(fun h => by cases h), fun e => absurd (decide_eq_true e.cat) h1⟩))
  have h1 := of_decide_eq_true h1
  have hS := h1.1.shp
  have m40 := hS.m40
  refine Ret.ite (fun h2 => Ret.some ⟨(fun h => by cases h), fun e => absurd e.ls h2⟩) (fun h2 => ?_)
  refine Ret.ite (fun h3 => Ret.some ⟨(fun h => by cases h), fun e => absurd e.la h3⟩) (fun h3 => ?_)
  have h2 := Decidable.not_not.1 h2
  have h3 := Decidable.not_not.1 h3
  have n8 := hS.n8
  refine Ret.all (F.Sizes.length : Int) (fun i => 0 ≤ el F.Sizes i ∧ el F.Sizes i ≤ 16) (by omega) (by omega) ?_ ?_
  · intro i next hi0 hi1 hp hn1
    rw [if_pos (decide_eq_true hi1)]
    refine Ret.idx hi0 hi1 (Ret.call (l01In_eq _ _ _) (Ret.ite (fun hb => hn1 (by simpa using hb)) (fun hb => Ret.some ⟨(fun h => by cases h), fun e => absurd (by simpa using e.siz i hi0 hi1) hb⟩)))
  · intro next hp1
    rw [if_neg (by simp)]
    refine Ret.all (F.Actions.length : Int) (fun a => ActOk F a) (by omega) (by omega) ?_ ?_
    · intro a next ha0 ha1 hp hn1
      rw [if_pos (decide_eq_true ha1)]
      have x1 := hS.from_in a ha0 (by omega)
      have x2 := hS.to_in a ha0 (by omega)
      have lt := hS.lto
      refine Ret.idx ha0 ha1 (Ret.idx ha0 (by omega) (Ret.idx x1.1 (by omega) (Ret.ite (fun hb => Ret.some ⟨(fun h => by cases h), fun e => absurd (e.act a ha0 ha1).1 hb⟩) (fun hb => ?_))))
      refine Ret.idx ha0 (by omega) (Ret.idx x2.1 (by omega) (Ret.call (l01Map_eq (h.s4 _ (el_mem ha0 ha1))) (Ret.ite (fun hc => hn1 ⟨Decidable.not_not.1 hb, of_decide_eq_true hc⟩) (fun hc => Ret.some ⟨(fun h => by cases h), fun e => absurd (decide_eq_true (e.act a ha0 ha1).2) hc⟩))))
    · intro next hp
      rw [if_neg (by simp)]
      exact Ret.some ⟨fun _ => ⟨h1, h2, h3, hp1, hp⟩, fun _ => rfl⟩

theorem isMapOf_eq {l : List Int} {n m : Int} (h : Small l) (h0 : -4611686018427387904 ≤ m) (h1 : m ≤ 4611686018427387904) : M.impl_isMapOf l n m = some (decide ((l.length : Int) = n ∧ In m l)) := by
  apply Ret.ask
  unfold M.impl_isMapOf
  simp only [beq_iff_eq]
  refine Ret.ite (fun he => Ret.call (within_eq h h0 h1) (Ret.some ?_)) (fun he => Ret.some ⟨(fun h => by cases h), fun e => absurd e.1 he⟩)
  rw [decide_eq_true_iff]
  exact ⟨fun x => ⟨he, x⟩, fun x => x.2⟩

theorem isShapeG_eq {F : XSetFunctor} (h : SmallG F) : M.impl_SetFunctor_isShape F = some (decide (ShpG F)) := by
  apply Ret.ask
  unfold M.impl_SetFunctor_isShape M.impl_Category_arrows
  simp only [bne_iff_ne, ne_eq, Option.bind_some]
  refine Ret.call (isCategory_eq h.s1) (Ret.ite (fun h1 => ?_) (fun h1 => Ret.some ⟨(fun h => by cases h), fun e => absurd (decide_eq_true e.cat) h1⟩))
  have h1 := of_decide_eq_true h1
  have hS := h1.1.shp
  have m40 := hS.m40
  have n8 := hS.n8
  refine Ret.ite (fun h2 => Ret.some ⟨(fun h => by cases h), fun e => absurd e.ls h2⟩) (fun h2 => ?_)
  have h2 := Decidable.not_not.1 h2
  refine Ret.call (within_eq h.s2 (by omega) (by omega)) (Ret.ite (fun h4 => ?_) (fun h4 => Ret.some ⟨(fun h => by cases h), fun e => absurd (decide_eq_true (fun i i0 i1 => by have := e.siz i i0 i1; omega)) h4⟩))
  have h4 := of_decide_eq_true h4
  refine Ret.ite (fun h3 => Ret.some ⟨(fun h => by cases h), fun e => absurd e.la h3⟩) (fun h3 => ?_)
  have h3 := Decidable.not_not.1 h3
  have hp1 : ∀ i, 0 ≤ i → i < (F.Sizes.length : Int) → 0 ≤ el F.Sizes i ∧ el F.Sizes i ≤ 16 := fun i i0 i1 => by have := h4 i i0 i1; omega
  refine Ret.all (F.Actions.length : Int) (fun a => ActOk F a) (by omega) (by omega) ?_ ?_
  · intro a next ha0 ha1 hp hn1
    rw [if_pos (decide_eq_true ha1)]
    have x1 := hS.from_in a ha0 (by omega)
    have x2 := hS.to_in a ha0 (by omega)
    have lt := hS.lto
    have z := hp1 _ x2.1 (by omega)
    refine Ret.idx ha0 ha1 (Ret.idx ha0 (by omega) (Ret.idx x1.1 (by omega) (Ret.idx ha0 (by omega) (Ret.idx x2.1 (by omega) (Ret.call (isMapOf_eq (h.s4 _ (el_mem ha0 ha1)) (by omega) (by omega)) (Ret.ite (fun hc => hn1 (show ActOk F a from of_decide_eq_true (p := ((el F.Actions a).length : Int) = el F.Sizes (el F.Shape.From a) ∧ In (el F.Sizes (el F.Shape.To a)) (el F.Actions a)) hc)) (fun hc => Ret.some ⟨(fun h => by cases h), fun e => absurd (e.act a ha0 ha1) (fun x => hc (decide_eq_true x))⟩)))))))
  · intro next hp
    rw [if_neg (by simp)]
    exact Ret.some ⟨fun _ => ⟨h1, h2, h3, hp1, hp⟩, fun _ => rfl⟩

/-- The image of e under the action of a. -/
abbrev act (F : XSetFunctor) (a e : Int) : Int := el (el F.Actions a) e
def UnitG (F : XSetFunctor) : Prop := ∀ x, 0 ≤ x → x < F.Shape.Objects → ∀ e, 0 ≤ e → e < el F.Sizes x → act F (el F.Shape.Identity x) e = e
def CompG (F : XSetFunctor) : Prop := ∀ f, 0 ≤ f → f < (F.Shape.From.length : Int) → ∀ g, 0 ≤ g → g < (F.Shape.From.length : Int) → el F.Shape.To f = el F.Shape.From g →
  ∀ e, 0 ≤ e → e < el F.Sizes (el F.Shape.From f) → act F (cmp F.Shape f g) e = act F g (act F f e)

theorem l19Fault_r {F : XSetFunctor} (h : ShpG F) : Ret (M.spec_l19Fault F) fun r => r.1 = 0 ↔ UnitG F ∧ CompG F := by
  unfold M.spec_l19Fault
  obtain ⟨hc, ls, la, siz, hact⟩ := h
  have hS := hc.1.shp
  have m40 := hS.m40
  have n0 := hS.n0
  have n8 := hS.n8
  have lid := hS.lid
  have lto := hS.lto
  have lco := hS.lco
  simp only [decide_eq_true_eq, bne_iff_ne, ne_eq]
  refine Ret.all F.Shape.Objects (fun x => ∀ e, 0 ≤ e → e < el F.Sizes x → act F (el F.Shape.Identity x) e = e) n0 (by omega) ?_ ?_
  · intro x next x0 x1 hp hn1
    rw [if_pos x1]
    have z := siz x x0 (by omega)
    have i1 := hS.id_in x x0 x1
    have i2 := hS.id_from x x0 x1
    have i3 := (hact _ i1.1 (by omega)).1
    rw [i2] at i3
    refine Ret.all (el F.Sizes x) (fun e => act F (el F.Shape.Identity x) e = e) z.1 (by omega) ?_ ?_
    · intro e next e0 e1 hq hn2
      refine Ret.idx x0 (by omega) ?_
      rw [if_pos e1]
      refine Ret.idx x0 (by omega) (Ret.idx i1.1 (by omega) (Ret.idx e0 (by omega) (Ret.ite (fun hb => Ret.some ?_) (fun hb => hn2 (Decidable.not_not.1 hb)))))
      exact ⟨(fun h => by cases h), fun hN => absurd (hN.1 x x0 x1 e e0 e1) hb⟩
    · intro next hq
      refine Ret.idx x0 (by omega) ?_
      rw [if_neg (by omega)]
      exact hn1 hq
  · intro next hpU
    rw [if_neg (by omega)]
    refine Ret.all (F.Shape.From.length : Int) (fun f => ∀ g, 0 ≤ g → g < (F.Shape.From.length : Int) → el F.Shape.To f = el F.Shape.From g → ∀ e, 0 ≤ e → e < el F.Sizes (el F.Shape.From f) → act F (cmp F.Shape f g) e = act F g (act F f e)) (by omega) (by omega) ?_ ?_
    · intro f next f0 f1 hp hn1
      rw [if_pos f1]
      have x1 := hS.from_in f f0 f1
      have z1 := siz _ x1.1 (by omega)
      have a1 := hact f f0 (by omega)
      refine Ret.all (F.Shape.From.length : Int) (fun g => el F.Shape.To f = el F.Shape.From g → ∀ e, 0 ≤ e → e < el F.Sizes (el F.Shape.From f) → act F (cmp F.Shape f g) e = act F g (act F f e)) (by omega) (by omega) ?_ ?_
      · intro g next g0 g1 hq hn2
        rw [if_pos g1]
        have rw1 := hS.row f f0 f1
        have a2 := hact g g0 (by omega)
        refine Ret.idx f0 (by omega) (Ret.idx g0 g1 (Ret.ite (fun hne => hn2 (fun he => absurd he hne)) (fun hm => ?_)))
        have hm := Decidable.not_not.1 hm
        have c1 : 0 ≤ el (el F.Shape.Composites f) g ∧ el (el F.Shape.Composites f) g < (F.Shape.From.length : Int) := hS.yes f g f0 f1 g0 g1 hm
        have c2 : el F.Shape.From (el (el F.Shape.Composites f) g) = el F.Shape.From f := hS.cfrom f g f0 f1 g0 g1 hm
        have a3 := (hact _ c1.1 (by omega)).1
        rw [c2] at a3
        refine Ret.all (el F.Sizes (el F.Shape.From f)) (fun e => act F (cmp F.Shape f g) e = act F g (act F f e)) z1.1 (by omega) ?_ ?_
        · intro e next e0 e1 hr hn3
          have b1 : 0 ≤ el (el F.Actions f) e ∧ el (el F.Actions f) e < el F.Sizes (el F.Shape.To f) := a1.2 e e0 (by have := a1.1; omega)
          rw [hm] at b1
          have b2 := a2.1
          have a4 := a1.1
          refine Ret.idx f0 f1 (Ret.idx x1.1 (by omega) ?_)
          rw [if_pos e1]
          refine Ret.idx f0 (by omega) (Ret.idx g0 (by omega) (Ret.idx c1.1 (by omega) (Ret.idx e0 (by omega) (Ret.idx g0 (by omega) (Ret.idx f0 (by omega) (Ret.idx e0 (by omega) (Ret.idx b1.1 (by omega) (Ret.ite (fun hb => Ret.some ?_) (fun hb => hn3 (Decidable.not_not.1 hb))))))))))
          exact ⟨(fun h => by cases h), fun hN => absurd (hN.2 f f0 f1 g g0 g1 hm e e0 e1) hb⟩
        · intro next hr
          refine Ret.idx f0 f1 (Ret.idx x1.1 (by omega) ?_)
          rw [if_neg (by omega)]
          exact hn2 fun _ => hr
      · intro next hq
        rw [if_neg (by omega)]
        exact hn1 hq
    · intro next hp
      rw [if_neg (by omega)]
      exact Ret.some ⟨fun _ => ⟨hpU, hp⟩, fun _ => rfl⟩

theorem faultG_r {F : XSetFunctor} (h : ShpG F) : Ret (M.impl_SetFunctor_fault F) fun r => r.1 = 0 ↔ UnitG F ∧ CompG F := by
  unfold M.impl_SetFunctor_fault
  obtain ⟨hc, ls, la, siz, hact⟩ := h
  have hS := hc.1.shp
  have m40 := hS.m40
  have n0 := hS.n0
  have n8 := hS.n8
  have lid := hS.lid
  have lto := hS.lto
  have lco := hS.lco
  simp only [decide_eq_true_eq, bne_iff_ne, ne_eq]
  refine Ret.all (F.Shape.Identity.length : Int) (fun x => ∀ e, 0 ≤ e → e < el F.Sizes x → act F (el F.Shape.Identity x) e = e) (by omega) (by omega) ?_ ?_
  · intro x next x0 x1 hp hn1
    rw [if_pos x1]
    have z := siz x x0 (by omega)
    have i1 := hS.id_in x x0 (by omega)
    have i2 := hS.id_from x x0 (by omega)
    have i3 := (hact _ i1.1 (by omega)).1
    rw [i2] at i3
    refine Ret.idx x0 x1 (Ret.idx i1.1 (by omega) ?_)
    refine Ret.all ((el F.Actions (el F.Shape.Identity x)).length : Int) (fun e => act F (el F.Shape.Identity x) e = e) (by omega) (by omega) ?_ ?_
    · intro e next e0 e1 hq hn2
      rw [if_pos e1]
      refine Ret.idx e0 e1 (Ret.ite (fun hb => Ret.some ?_) (fun hb => hn2 (Decidable.not_not.1 hb)))
      exact ⟨(fun h => by cases h), fun hN => absurd (hN.1 x x0 (by omega) e e0 (by omega)) hb⟩
    · intro next hq
      rw [if_neg (by omega)]
      exact hn1 fun e e0 e1 => hq e e0 (by omega)
  · intro next hpU
    rw [if_neg (by omega)]
    refine Ret.all (F.Shape.Composites.length : Int) (fun f => ∀ g, 0 ≤ g → g < (F.Shape.From.length : Int) → el F.Shape.To f = el F.Shape.From g → ∀ e, 0 ≤ e → e < el F.Sizes (el F.Shape.From f) → act F (cmp F.Shape f g) e = act F g (act F f e)) (by omega) (by omega) ?_ ?_
    · intro f next f0 f1 hp hn1
      rw [if_pos f1]
      have f2 : f < (F.Shape.From.length : Int) := by omega
      have x1 := hS.from_in f f0 f2
      have z1 := siz _ x1.1 (by omega)
      have a1 := hact f f0 (by omega)
      have rw1 := hS.row f f0 f2
      refine Ret.idx f0 f1 ?_
      refine Ret.all ((el F.Shape.Composites f).length : Int) (fun g => el F.Shape.To f = el F.Shape.From g → ∀ e, 0 ≤ e → e < el F.Sizes (el F.Shape.From f) → act F (cmp F.Shape f g) e = act F g (act F f e)) (by omega) (by omega) ?_ ?_
      · intro g next g0 g1 hq hn2
        rw [if_pos g1]
        have g2 : g < (F.Shape.From.length : Int) := by omega
        have a2 := hact g g0 (by omega)
        refine Ret.idx g0 g1 (Ret.ite (fun hne => hn2 (fun he => ?_)) (fun hm0 => ?_))
        · have := (hS.yes f g f0 f2 g0 g2 he).1
          have hne : cmp F.Shape f g < 0 := hne
          omega
        have hm0 : ¬ cmp F.Shape f g < 0 := hm0
        have hm : el F.Shape.To f = el F.Shape.From g := by
          by_cases he : el F.Shape.To f = el F.Shape.From g
          · exact he
          · have := hS.no f g f0 f2 g0 g2 he
            omega
        have c1 : 0 ≤ el (el F.Shape.Composites f) g ∧ el (el F.Shape.Composites f) g < (F.Shape.From.length : Int) := hS.yes f g f0 f2 g0 g2 hm
        have c2 : el F.Shape.From (el (el F.Shape.Composites f) g) = el F.Shape.From f := hS.cfrom f g f0 f2 g0 g2 hm
        have a3 := (hact _ c1.1 (by omega)).1
        rw [c2] at a3
        have a4 := a1.1
        refine Ret.idx f0 (by omega) ?_
        refine Ret.all ((el F.Actions f).length : Int) (fun e => act F (cmp F.Shape f g) e = act F g (act F f e)) (by omega) (by omega) ?_ ?_
        · intro e next e0 e1 hr hn3
          rw [if_pos e1]
          have b1 : 0 ≤ el (el F.Actions f) e ∧ el (el F.Actions f) e < el F.Sizes (el F.Shape.To f) := a1.2 e e0 (by have := a1.1; omega)
          rw [hm] at b1
          have b2 := a2.1
          refine Ret.idx e0 e1 (Ret.idx c1.1 (by omega) (Ret.idx e0 (by omega) (Ret.idx g0 (by omega) (Ret.idx b1.1 (by omega) (Ret.ite (fun hb => Ret.some ?_) (fun hb => hn3 (Decidable.not_not.1 hb)))))))
          exact ⟨(fun h => by cases h), fun hN => absurd (hN.2 f f0 f2 g g0 g2 hm e e0 (by omega)) hb⟩
        · intro next hr
          rw [if_neg (by omega)]
          exact hn2 fun _ e e0 e1 => hr e e0 (by omega)
      · intro next hq
        rw [if_neg (by omega)]
        exact hn1 fun g g0 g1 => hq g g0 (by omega)
    · intro next hp
      rw [if_neg (by omega)]
      exact Ret.some ⟨fun _ => ⟨fun x x0 x1 => hpU x x0 (by omega), fun f f0 f1 => hp f f0 (by omega)⟩, fun _ => rfl⟩

def IsSet (F : XSetFunctor) : Prop := ShpG F ∧ UnitG F ∧ CompG F

theorem l19Is_eq {F : XSetFunctor} (h : SmallG F) : M.spec_l19Is F = some (decide (IsSet F)) := by
  apply Ret.ask
  unfold M.spec_l19Is
  refine Ret.call (l19Shape_eq h) (Ret.ite (fun h1 => ?_) (fun h1 => Ret.some ⟨(fun h => by cases h), fun e => absurd (decide_eq_true e.1) h1⟩))
  have h1 := of_decide_eq_true h1
  refine Ret.bind (l19Fault_r h1) fun r hr => Ret.some ?_
  rw [beq_iff_eq, hr]
  exact ⟨fun x => ⟨h1, x⟩, fun x => x.2⟩

theorem isSetFunctor_eq {F : XSetFunctor} (h : SmallG F) : M.impl_SetFunctor_isSetFunctor F = some (decide (IsSet F)) := by
  apply Ret.ask
  unfold M.impl_SetFunctor_isSetFunctor
  refine Ret.call (isShapeG_eq h) (Ret.ite (fun h1 => ?_) (fun h1 => Ret.some ⟨(fun h => by cases h), fun e => absurd (decide_eq_true e.1) h1⟩))
  have h1 := of_decide_eq_true h1
  refine Ret.bind (faultG_r h1) fun r hr => Ret.some ?_
  rw [beq_iff_eq, hr]
  exact ⟨fun x => ⟨h1, x⟩, fun x => x.2⟩
end Go.Gx

/- The law of SumSets. -/
namespace Go.Gx
open Classical
set_option maxHeartbeats 2000000

def upTo (n : Int) : List Int := tab n fun j => j
def shifts (l : List Int) (b : Int) : List Int := tab (l.length : Int) fun j => el l j + b
/-- Two set functors on one shape. -/
structure TwoG (F G : XSetFunctor) : Prop where
  f : IsSet F
  g : IsSet G
  e : F.Shape = G.Shape

theorem areSetFunctors_eq {l : List XSetFunctor} (hl : Small l) (h : ∀ c ∈ l, SmallG c) : M.impl_areSetFunctors l = some (decide (∀ c ∈ l, IsSet c)) := by
  apply Ret.ask
  unfold M.impl_areSetFunctors
  simp only [decide_eq_true_eq]
  have : Inhabited XSetFunctor := ⟨⟨⟨0, [], [], [], []⟩, [], []⟩⟩
  refine Ret.all (l.length : Int) (fun i => IsSet (el l i)) (by omega) (by omega) ?_ ?_
  · intro i next hi0 hi1 hp hn1
    rw [if_pos hi1]
    refine Ret.idx hi0 hi1 (Ret.call (isSetFunctor_eq (h _ (el_mem hi0 hi1))) (Ret.ite (fun x => hn1 (of_decide_eq_true x)) (fun x => Ret.some ?_)))
    exact ⟨(fun h => by cases h), fun e => absurd (decide_eq_true (e _ (el_mem hi0 hi1))) x⟩
  · intro next hp
    rw [if_neg (by omega)]
    refine Ret.some ⟨fun _ c hc => ?_, fun _ => rfl⟩
    obtain ⟨i, h0, h1, rfl⟩ := mem_el hc
    exact hp i h0 h1
theorem shifted_eq {l : List Int} {b : Int} (hl : Small l) (h0 : 0 ≤ b) (h1 : b ≤ 1048576) (hr : ∀ i, 0 ≤ i → i < (l.length : Int) → 0 ≤ el l i ∧ el l i ≤ 1048576) : M.impl_shifted l b = some (shifts l b) := by
  apply Ret.eq
  unfold M.impl_shifted
  refine push_loop (n := (l.length : Int)) (F := fun j => el l j + b) (by omega) (by omega) ?_ ?_
  · intro i next i0 i1 hl hn
    have x := hr i i0 i1
    dsimp only
    rw [if_pos (decide_eq_true i1)]
    refine Ret.idx i0 i1 ?_
    rw [wrap_in (x := el l i + b) (by omega) (by omega)]
    exact Ret.chk (by unfold lim; simp only [List.length_cons, List.length_nil]; omega) hn
  · intro next
    dsimp only
    rw [if_neg (by simp)]
    exact Ret.some rfl

/-- What the indices need. -/
theorem TwoG.sz {F G : XSetFunctor} (h : TwoG F G) {x : Int} (x0 : 0 ≤ x) (x1 : x < (F.Sizes.length : Int)) :
    x < (G.Sizes.length : Int) ∧ (0 ≤ el F.Sizes x ∧ el F.Sizes x ≤ 16) ∧ (0 ≤ el G.Sizes x ∧ el G.Sizes x ≤ 16) := by
  have l1 := h.f.1.ls
  have l2 := h.g.1.ls
  rw [← h.e] at l2
  exact ⟨by omega, h.f.1.siz x x0 x1, h.g.1.siz x x0 (by omega)⟩
theorem TwoG.ac {F G : XSetFunctor} (h : TwoG F G) {a : Int} (a0 : 0 ≤ a) (a1 : a < (F.Actions.length : Int)) :
    a < (G.Actions.length : Int) ∧ a < (F.Shape.To.length : Int) ∧ (0 ≤ el F.Shape.To a ∧ el F.Shape.To a < (F.Sizes.length : Int)) ∧ ((el F.Actions a).length : Int) ≤ 16 ∧ ((el G.Actions a).length : Int) ≤ 16 ∧
    ∀ i, 0 ≤ i → i < ((el G.Actions a).length : Int) → 0 ≤ el (el G.Actions a) i ∧ el (el G.Actions a) i ≤ 1048576 := by
  have l1 := h.f.1.la
  have l2 := h.g.1.la
  have l3 := h.f.1.ls
  have l4 := h.g.1.ls
  have e := h.e
  rw [← e] at l2 l4
  have hc := h.f.1.cat.1.shp
  have lt := hc.lto
  have t := hc.to_in a a0 (by omega)
  have s := hc.from_in a a0 (by omega)
  have f1 := (h.f.1.act a a0 a1).1
  have g1 := (h.g.1.act a a0 (by omega)).1
  have g2 := (h.g.1.act a a0 (by omega)).2
  rw [← e] at g1 g2
  have z1 := h.f.1.siz _ s.1 (by omega)
  have z2 := h.g.1.siz _ s.1 (by omega)
  have z3 := h.g.1.siz _ t.1 (by omega)
  refine ⟨by omega, by omega, ⟨t.1, by omega⟩, by omega, by omega, fun i i0 i1 => ?_⟩
  have := g2 i i0 i1
  omega

theorem upTo_len {n : Int} (h : 0 ≤ n) : ((upTo n).length : Int) = n := tab_len' _ _ h
theorem upTo_in {n : Int} (h : n ≤ 1048576) : ∀ i, 0 ≤ i → i < ((upTo n).length : Int) → 0 ≤ el (upTo n) i ∧ el (upTo n) i ≤ 1048576 := by
  intro i i0 i1
  unfold upTo at *
  rw [tab_length] at i1
  rw [el_tab i0 (by omega)]; omega

end Go.Gx

/- Plain laws: profunctors with a limit; loops that lay lists one behind the other. -/
namespace Go.Gx
open Classical
set_option maxHeartbeats 1000000

/-- All values of a table are within the limit. -/
def Within (n m : Int) (U : Int → Int → Int) : Prop := ∀ x, 0 ≤ x → x < n → ∀ y, 0 ≤ y → y < m → U x y ≤ 64

theorem profunctor_no {c d : XCategory} (sc : SmallC c) (sd : SmallC d) (hc : Shp c) (hd : Shp d) {u : Int → Int → Option Int} {v w : Int → Int → Option (List Int)} {U : Int → Int → Int}
    (hu : ∀ x y, 0 ≤ x → x < c.Objects → 0 ≤ y → y < d.Objects → u x y = some (U x y)) (hn : ¬ Within c.Objects d.Objects U) :
    M.impl_profunctor c d u v w = some (⟨⟨0, [], [], [], []⟩, ⟨0, [], [], [], []⟩, [], [], []⟩, false) := by
  apply Ret.eq
  have c0 := hc.n0
  have c8 := hc.n8
  have d0 := hd.n0
  have d8 := hd.n8
  unfold M.impl_profunctor
  refine Ret.call (copy_eq sc) (Ret.call (copy_eq sd) ?_)
  refine Ret.acc c.Objects (fun i s => s = (tab i fun x => tab d.Objects fun y => U x y) ∧ Within i d.Objects U) c0 (by omega) ⟨rfl, fun x x0 x1 => by omega⟩ ?_ ?_
  · rintro x s next x0 x1 ⟨rfl, hp⟩ hn1
    dsimp only
    simp only [decide_eq_true_eq]
    rw [if_pos x1]
    refine Ret.chk ⟨d0, by unfold lim; omega⟩ ?_
    refine Ret.acc d.Objects (fun j s => s = (tab j fun y => U x y) ∧ ∀ y, 0 ≤ y → y < j → U x y ≤ 64) d0 (by omega) ⟨rfl, fun y y0 y1 => by omega⟩ ?_ ?_
    · rintro y s next y0 y1 ⟨rfl, hq⟩ hn2
      dsimp only
      rw [if_pos y1]
      have hl : ((tab y fun y => U x y).length : Int) = y := by rw [tab_length]; omega
      have e1 := hu x y x0 x1 y0 y1
      have hs := (tab_succ (fun y => U x y) y0).symm
      refine Ret.chk (by omega) (Ret.call e1 (Ret.chk (by unfold lim; simp only [List.length_cons, List.length_nil]; omega) ?_))
      rw [show ((tab y fun y => U x y) ++ ([U x y] : List Int)) = tab (y + 1) fun y => U x y from hs]
      refine Ret.idx y0 (by rw [tab_length]; omega) ?_
      rw [el_tab y0 (by omega)]
      refine Ret.ite (fun _ => Ret.some rfl) (fun h => hn2 _ ⟨rfl, fun z z0 z1 => ?_⟩)
      by_cases hz : z = y
      · subst hz; omega
      · exact hq z z0 (by omega)
    · rintro s next ⟨rfl, hq⟩
      dsimp only
      rw [if_neg (by omega)]
      refine Ret.chk ?_ (hn1 _ ⟨(tab_succ (fun x => tab d.Objects fun y => U x y) x0).symm, fun z z0 z1 y y0 y1 => ?_⟩)
      · rw [tab_length]; unfold lim; omega
      · by_cases hz : z = x
        · subst hz; exact hq y y0 y1
        · exact hp z z0 (by omega) y y0 y1
  · rintro s next ⟨rfl, hp⟩
    exact absurd hp hn

def profP (c d : XCategory) (U : Int → Int → Int) (V W : Int → Int → List Int) : XProfunctor :=
  ⟨c, d, tab c.Objects fun x => tab d.Objects fun y => U x y, tab (c.From.length : Int) fun a => tab d.Objects fun y => V a y, tab (d.From.length : Int) fun b => tab c.Objects fun x => W b x⟩

theorem profP_small {c d : XCategory} (sc : SmallC c) (sd : SmallC d) (hc : Shp c) (hd : Shp d) {U : Int → Int → Int} {V W : Int → Int → List Int}
    (hV : ∀ a y, 0 ≤ a → a < (c.From.length : Int) → 0 ≤ y → y < d.Objects → Small (V a y)) (hW : ∀ b x, 0 ≤ b → b < (d.From.length : Int) → 0 ≤ x → x < c.Objects → Small (W b x)) : SmallP (profP c d U V W) := by
  have f0 := hc.n0
  have f8 := hc.n8
  have g0 := hd.n0
  have g8 := hd.n8
  have fm := hc.m40
  have gm := hd.m40
  have big : ∀ {α : Type} {n : Int} (F : Int → α), n ≤ 1024 → ((tab n F).length : Int) ≤ 1024 := fun F hn => by rw [tab_length]; omega
  have sm : ∀ {α : Type} {n : Int} (F : Int → α), n ≤ 1024 → Small (tab n F) := fun F hn => by unfold Small; rw [tab_length]; omega
  have rows : ∀ {n m : Int} {F : Int → Int → List Int}, (∀ x y, 0 ≤ x → x < n → 0 ≤ y → y < m → Small (F x y)) → m ≤ 1024 → ∀ r ∈ (tab n fun a => tab m fun y => F a y), Small r ∧ ∀ q ∈ r, Small q := by
    intro n m F hF hm r hr
    obtain ⟨i, i0, i1, rfl⟩ := mem_el hr
    rw [tab_length] at i1
    rw [el_tab i0 (by omega)]
    refine ⟨sm _ hm, fun q hq => ?_⟩
    obtain ⟨j, j0, j1, rfl⟩ := mem_el hq
    rw [tab_length] at j1
    rw [el_tab j0 (by omega)]
    exact hF _ _ i0 (by omega) j0 (by omega)
  have q3 : (profP c d U V W).Sizes = tab c.Objects fun x => tab d.Objects fun y => U x y := rfl
  have q4 : (profP c d U V W).Before = tab (c.From.length : Int) fun a => tab d.Objects fun y => V a y := rfl
  have q5 : (profP c d U V W).Behind = tab (d.From.length : Int) fun b => tab c.Objects fun x => W b x := rfl
  refine ⟨sc, sd, ⟨by rw [q3]; exact sm _ (by omega), fun q hq => ?_⟩, by rw [q4]; exact big _ (by omega), by rw [q4]; exact rows hV (by omega), by rw [q5]; exact big _ (by omega), by rw [q5]; exact rows hW (by omega)⟩
  rw [q3] at hq
  obtain ⟨j, j0, j1, rfl⟩ := mem_el hq
  rw [tab_length] at j1
  rw [el_tab j0 (by omega)]
  exact sm _ (by omega)

/-! ### lists one behind the other -/
def cat (n : Int) (H : Int → List Int) : List Int := (tab n H).flatten
theorem cat_succ {i : Int} {H : Int → List Int} (h : 0 ≤ i) : cat (i + 1) H = cat i H ++ H i := by
  unfold cat
  rw [tab_succ H h, List.flatten_append]; simp
theorem cat_len {H : Int → List Int} : ∀ (k : Nat), (∀ i, 0 ≤ i → i < (k : Int) → ((H i).length : Int) ≤ 1024) → ((cat (k : Int) H).length : Int) ≤ (k : Int) * 1024
  | 0, _ => by simp [cat, tab]
  | k + 1, h => by
    have := cat_len k fun i i0 i1 => h i i0 (by omega)
    have h2 := h (k : Int) (by omega) (by omega)
    rw [show ((k + 1 : Nat) : Int) = (k : Int) + 1 by omega, cat_succ (by omega), List.length_append]
    omega
theorem cat_len' {n : Int} {H : Int → List Int} (n0 : 0 ≤ n) (h : ∀ i, 0 ≤ i → i < n → ((H i).length : Int) ≤ 1024) : ((cat n H).length : Int) ≤ n * 1024 := by
  have := cat_len (H := H) n.toNat fun i i0 i1 => h i i0 (by omega)
  rwa [Int.toNat_of_nonneg n0] at this

theorem cat_loop {ρ : Type} {n : Int} (h0 : 0 ≤ n) (hf : n ≤ 1024) {H : Int → List Int} (hH : ∀ i, 0 ≤ i → i < n → ((H i).length : Int) ≤ 1024) {step : List Int × Int → (List Int × Int → Option ρ) → Option ρ} {Q : ρ → Prop}
    (hgo : ∀ (i : Int) next, 0 ≤ i → i < n → ((cat i H).length : Int) ≤ 1048576 → Ret (next (cat i H ++ H i, IntKind.i64.wrap (i + 1))) Q → Ret (step (cat i H, i) next) Q)
    (hend : ∀ next, ((cat n H).length : Int) ≤ 1048576 → Ret (step (cat n H, n) next) Q) : Ret (iter step fuel (([] : List Int), 0)) Q := by
  refine Ret.acc n (fun i s => s = cat i H) h0 (by omega) rfl ?_ ?_
  · rintro i s next i0 i1 rfl hn
    refine hgo i next i0 i1 ?_ (hn _ (cat_succ i0).symm)
    have := cat_len' i0 fun j j0 j1 => hH j j0 (by omega)
    omega
  · rintro s next rfl
    have := cat_len' h0 hH
    exact hend next (by omega)

theorem add_loop {α ρ : Type} {n : Int} (h0 : 0 ≤ n) (hf : n < 4294967296) {base : List α} {F : Int → α} {step : List α × Int → (List α × Int → Option ρ) → Option ρ} {Q : ρ → Prop}
    (hgo : ∀ (i : Int) next, 0 ≤ i → i < n → ((base ++ tab i F).length : Int) = (base.length : Int) + i → Ret (next ((base ++ tab i F) ++ [F i], IntKind.i64.wrap (i + 1))) Q → Ret (step (base ++ tab i F, i) next) Q)
    (hend : ∀ next, Ret (step (base ++ tab n F, n) next) Q) : Ret (iter step fuel (base, 0)) Q := by
  refine Ret.acc n (fun i s => s = base ++ tab i F) h0 hf (by show base = base ++ tab 0 F; rw [show tab 0 F = [] from rfl, List.append_nil]) ?_ ?_
  · rintro i s next i0 i1 rfl hn
    refine hgo i next i0 i1 (by rw [List.length_append, Int.natCast_add, tab_len' _ _ i0]) (hn _ ?_)
    rw [List.append_assoc, ← tab_succ F i0]
  · rintro s next rfl
    exact hend next
end Go.Gx

/- Plain laws: opposites. -/
namespace Go.Gx
open Classical
set_option maxHeartbeats 1000000

def opC (c : XCategory) : XCategory := ⟨c.Objects, c.To, c.From, c.Identity, tab (c.From.length : Int) fun i => tab (c.From.length : Int) fun j => cmp c j i⟩
theorem opC_small {c : XCategory} (h : Shp c) : SmallC (opC c) := by
  obtain ⟨s1, s2, s3, s4, s5⟩ := h.small
  have hm := h.m40
  refine ⟨s2, s1, s3, ?_, ?_⟩
  · simp only [opC, Small, tab_length]; omega
  · intro r hr
    obtain ⟨i, h0, h1, rfl⟩ := mem_el hr
    simp only [opC, tab_length] at h1
    simp only [opC, Small]
    rw [el_tab h0 (by omega), tab_length]; omega

theorem l03Op_eq {c : XCategory} (h : Shp c) : M.spec_l03Op c = some (opC c) := by
  apply Ret.eq
  obtain ⟨s1, s2, s3, s4, s5⟩ := h.small
  unfold M.spec_l03Op
  refine Ret.call (own_eq s2) (Ret.call (own_eq s1) (Ret.call (own_eq s3) ?_))
  have hm := h.m40
  have hc := h.lco
  refine Ret.acc (c.From.length : Int) (fun i a => a = tab i fun i => tab (c.From.length : Int) fun j => cmp c j i) (by omega) (by omega) rfl ?_ ?_
  · rintro i a next hi0 hi1 rfl hn1
    dsimp only
    simp only [decide_eq_true_eq]
    rw [if_pos hi1]
    refine Ret.acc (c.From.length : Int) (fun j a => a = tab j fun j => cmp c j i) (by omega) (by omega) rfl ?_ ?_
    · rintro j a next' hj0 hj1 rfl hn2
      dsimp only
      have hr := h.row j hj0 hj1
      (repeat' (first | with_reducible refine Ret.pos ‹_› ?_ | with_reducible refine Ret.neg ‹_› ?_ | with_reducible refine Ret.neg (Int.lt_irrefl _) ?_ | with_reducible refine Ret.ite (fun _ => ?_) (fun _ => ?_) | with_reducible refine Ret.idx ?_ ?_ ?_ | with_reducible refine Ret.chk ?_ ?_ | with_reducible refine hn3 ?_ | with_reducible refine hn2 ?_ | with_reducible refine hn1 ?_ | with_reducible refine hn3 _ ?_ | with_reducible refine hn2 _ ?_ | with_reducible refine hn1 _ ?_ | with_reducible refine Ret.some ?_))
      · exact hj0
      · omega
      · exact hi0
      · omega
      · rw [tab_length]; unfold lim; simp; omega
      · exact (tab_succ _ hj0).symm
    · rintro a next' rfl
      dsimp only
      rw [if_neg (by omega)]
      refine Ret.chk (by rw [tab_length]; unfold lim; omega) (hn1 _ (tab_succ (fun i => tab (c.From.length : Int) fun j => cmp c j i) hi0).symm)
  · rintro a next rfl
    dsimp only
    simp only [decide_eq_true_eq]
    rw [if_neg (by omega)]
    exact Ret.some rfl

theorem opposite_eq {c : XCategory} (h : Shp c) : M.impl_opposite c = some (opC c) := by
  obtain ⟨s1, s2, s3, s4, s5⟩ := h.small
  have hm := h.m40
  have ht := h.lto
  have hc := h.lco
  unfold M.impl_opposite
  rw [clone_eq s1, clone_eq s2, clone_eq s3]
  simp only [Option.bind_some]
  rw [table_eq (v := fun i j => cmp c j i)]
  · simp only [Option.bind_some, opC, ht, Option.some.injEq, XCategory.mk.injEq, true_and]
    apply tab_congr; intro i hi0 hi1
    apply tab_congr; intro j hj0 hj1
    split
    · rfl
    · rename_i hne
      exact (h.no j i hj0 hj1 hi0 hi1 (fun e => hne e.symm)).symm
  · show (c.To.length : Int) ≤ 40
    omega
  · show (c.From.length : Int) = (c.To.length : Int)
    omega
  · intro i j hi0 hi1 hj0 hj1 _
    unfold M.impl_opposite_1
    have hi2 : i < (c.From.length : Int) := by
      have : i < (c.To.length : Int) := hi1
      omega
    have hj2 : j < (c.From.length : Int) := by
      have : j < (c.To.length : Int) := hj1
      omega
    have := h.row j hj0 hj2
    rw [then_eq hj0 (by omega) hi0 (by omega)]; rfl

end Go.Gx

/- The law of PairsProfunctor. -/
namespace Go.Gx
open Classical
set_option maxHeartbeats 1000000

theorem opC_cmp {c : XCategory} {i j : Int} (i0 : 0 ≤ i) (i1 : i < (c.From.length : Int)) (j0 : 0 ≤ j) (j1 : j < (c.From.length : Int)) : cmp (opC c) i j = cmp c j i := by
  show el (el (tab (c.From.length : Int) fun i => tab (c.From.length : Int) fun j => cmp c j i) i) j = _
  rw [el_tab i0 i1, el_tab j0 j1]
theorem opC_shp {c : XCategory} (h : Shp c) : Shp (opC c) := by
  have lto := h.lto
  have e : ((opC c).From.length : Int) = (c.From.length : Int) := lto
  refine ⟨h.n0, h.n8, by rw [e]; exact h.m40, e.symm, h.lid, ?_, fun i i0 i1 => h.to_in i i0 (by omega), fun i i0 i1 => h.from_in i i0 (by omega), fun i i0 i1 => ?_, h.id_to, h.id_from, fun i i0 i1 => ?_, ?_, ?_, ?_, ?_⟩
  · rw [e]
    show ((tab (c.From.length : Int) fun i => tab (c.From.length : Int) fun j => cmp c j i).length : Int) = _
    rw [tab_length]; omega
  · have := h.id_in i i0 i1
    exact ⟨this.1, by rw [e]; exact this.2⟩
  · rw [e]
    show ((el (tab (c.From.length : Int) fun i => tab (c.From.length : Int) fun j => cmp c j i) i).length : Int) = _
    rw [el_tab i0 (by omega), tab_length]; omega
  · intro i j i0 i1 j0 j1 hne
    rw [opC_cmp i0 (by omega) j0 (by omega)]
    exact h.no j i j0 (by omega) i0 (by omega) (fun x => hne x.symm)
  · intro i j i0 i1 j0 j1 he
    rw [opC_cmp i0 (by omega) j0 (by omega), e]
    exact h.yes j i j0 (by omega) i0 (by omega) he.symm
  · intro i j i0 i1 j0 j1 he
    rw [opC_cmp i0 (by omega) j0 (by omega)]
    exact h.cto j i j0 (by omega) i0 (by omega) he.symm
  · intro i j i0 i1 j0 j1 he
    rw [opC_cmp i0 (by omega) j0 (by omega)]
    exact h.cfrom j i j0 (by omega) i0 (by omega) he.symm

def pU (F G : XSetFunctor) (x y : Int) : Int := el F.Sizes x * el G.Sizes y
def pV (F G : XSetFunctor) (a y : Int) : List Int := cat ((el F.Actions a).length : Int) fun i => tab (el G.Sizes y) fun j => el (el F.Actions a) i * el G.Sizes y + j
def pW (F G : XSetFunctor) (b x : Int) : List Int := cat (el F.Sizes x) fun i => tab ((el G.Actions b).length : Int) fun j => i * el G.Sizes (el G.Shape.To b) + el (el G.Actions b) j

/-- What is known of a set functor, for omega. -/
theorem setG_facts {F : XSetFunctor} (h : ShpG F) {a : Int} (a0 : 0 ≤ a) (a1 : a < (F.Shape.From.length : Int)) :
    (0 ≤ el F.Shape.From a ∧ el F.Shape.From a < (F.Sizes.length : Int)) ∧ (0 ≤ el F.Shape.To a ∧ el F.Shape.To a < (F.Sizes.length : Int)) ∧ (0 ≤ el F.Sizes (el F.Shape.To a) ∧ el F.Sizes (el F.Shape.To a) ≤ 16) ∧
    ((el F.Actions a).length : Int) = el F.Sizes (el F.Shape.From a) ∧ ((el F.Actions a).length : Int) ≤ 16 ∧ In (el F.Sizes (el F.Shape.To a)) (el F.Actions a) := by
  have hS := h.cat.1.shp
  have ls := h.ls
  have x1 := hS.from_in a a0 a1
  have x2 := hS.to_in a a0 a1
  have hA := h.act a a0 (by rw [h.la]; exact a1)
  have z1 := h.siz _ x1.1 (by omega)
  have z2 := h.siz _ x2.1 (by omega)
  have hA1 := hA.1
  exact ⟨⟨x1.1, by omega⟩, ⟨x2.1, by omega⟩, z2, hA1, by omega, hA.2⟩

theorem mul16 {x y : Int} (x0 : 0 ≤ x) (x1 : x ≤ 16) (y0 : 0 ≤ y) (y1 : y ≤ 16) : 0 ≤ x * y ∧ x * y ≤ 256 := mulB (N := 16) (M := 16) x0 x1 y0 y1

theorem l22Pairs_eq {F G : XSetFunctor} (sG : SmallG G) (hF : ShpG F) (hG : ShpG G) : M.spec_l22Pairs F G = some (profP (opC F.Shape) G.Shape (pU F G) (pV F G) (pW F G)) := by
  apply Ret.eq
  have hc := hF.cat.1.shp
  have hd := hG.cat.1.shp
  have c0 := hc.n0
  have c8 := hc.n8
  have d0 := hd.n0
  have d8 := hd.n8
  have cm := hc.m40
  have dm := hd.m40
  have lto := hc.lto
  have dto := hd.lto
  have la := hF.la
  have ls := hF.ls
  have la' := hG.la
  have ls' := hG.ls
  have eO : (opC F.Shape).Objects = F.Shape.Objects := rfl
  have eF : ((opC F.Shape).From.length : Int) = (F.Shape.From.length : Int) := lto
  unfold M.spec_l22Pairs
  refine Ret.call (l03Op_eq hc) (Ret.call (l02Own_eq sG.s1) ?_)
  refine push_loop (n := (opC F.Shape).Objects) (F := fun x => tab G.Shape.Objects fun y => pU F G x y) (by omega) (by omega) ?_ ?_
  · intro x next x0 x1 hl hn
    dsimp only
    rw [if_pos (decide_eq_true x1)]
    refine push_loop (n := G.Shape.Objects) (F := fun y => pU F G x y) d0 (by omega) ?_ ?_
    · intro y next y0 y1 hl2 hn2
      dsimp only
      rw [if_pos (decide_eq_true y1)]
      have z1 := hF.siz x x0 (by omega)
      have z2 := hG.siz y y0 (by omega)
      have z := mul16 z1.1 z1.2 z2.1 z2.2
      refine Ret.idx x0 (by omega) (Ret.idx y0 (by omega) ?_)
      rw [wrap_in (by omega) (by omega)]
      exact Ret.chk (by unfold lim; simp only [List.length_cons, List.length_nil]; omega) hn2
    · intro next
      dsimp only
      rw [if_neg (by simp)]
      exact Ret.chk (by unfold lim; omega) hn
  intro next
  dsimp only
  rw [if_neg (by simp)]
  refine push_loop (n := ((opC F.Shape).From.length : Int)) (F := fun a => tab G.Shape.Objects fun y => pV F G a y) (by omega) (by omega) ?_ ?_
  · intro a next a0 a1 hl hn
    dsimp only
    rw [if_pos (decide_eq_true a1)]
    obtain ⟨_, _, z1, _, z3, z4⟩ := setG_facts hF a0 (by omega)
    refine push_loop (n := G.Shape.Objects) (F := fun y => pV F G a y) d0 (by omega) ?_ ?_
    · intro y next y0 y1 hl2 hn2
      dsimp only
      rw [if_pos (decide_eq_true y1)]
      have z2 := hG.siz y y0 (by omega)
      refine cat_loop (n := ((el F.Actions a).length : Int)) (H := fun i => tab (el G.Sizes y) fun j => el (el F.Actions a) i * el G.Sizes y + j) (by omega) (by omega) (fun i _ _ => by rw [tab_length]; omega) ?_ ?_
      · intro i next i0 i1 hb hn3
        dsimp only
        refine Ret.idx a0 (by omega) ?_
        rw [if_pos (decide_eq_true i1)]
        refine add_loop (n := el G.Sizes y) (F := fun j => el (el F.Actions a) i * el G.Sizes y + j) z2.1 (by omega) ?_ ?_
        · intro j next j0 j1 hl4 hn4
          dsimp only
          refine Ret.idx y0 (by omega) ?_
          rw [if_pos (decide_eq_true j1)]
          have z5 := z4 i i0 i1
          have z := mul16 z5.1 (by omega) z2.1 z2.2
          refine Ret.idx i0 i1 ?_
          rw [wrap2 z.1 (by omega) (by omega)]
          exact Ret.chk (by unfold lim; simp only [List.length_cons, List.length_nil]; omega) hn4
        · intro next
          dsimp only
          refine Ret.idx y0 (by omega) ?_
          rw [if_neg (by simp)]
          exact hn3
      · intro next hb
        dsimp only
        refine Ret.idx a0 (by omega) ?_
        rw [if_neg (by simp)]
        exact Ret.chk (by unfold lim; omega) hn2
    · intro next
      dsimp only
      rw [if_neg (by simp)]
      exact Ret.chk (by unfold lim; omega) hn
  intro next
  dsimp only
  rw [if_neg (by simp)]
  refine push_loop (n := (G.Shape.From.length : Int)) (F := fun b => tab (opC F.Shape).Objects fun x => pW F G b x) (by omega) (by omega) ?_ ?_
  · intro b next b0 b1 hl hn
    dsimp only
    rw [if_pos (decide_eq_true b1)]
    obtain ⟨_, w2, w3, w4, w5, w6⟩ := setG_facts hG b0 b1
    refine push_loop (n := (opC F.Shape).Objects) (F := fun x => pW F G b x) (by omega) (by omega) ?_ ?_
    · intro x next x0 x1 hl2 hn2
      dsimp only
      rw [if_pos (decide_eq_true x1)]
      have z1 := hF.siz x x0 (by omega)
      refine cat_loop (n := el F.Sizes x) (H := fun i => tab ((el G.Actions b).length : Int) fun j => i * el G.Sizes (el G.Shape.To b) + el (el G.Actions b) j) z1.1 (by omega) (fun i _ _ => by rw [tab_length]; omega) ?_ ?_
      · intro i next i0 i1 hb hn3
        dsimp only
        refine Ret.idx x0 (by omega) ?_
        rw [if_pos (decide_eq_true i1)]
        refine add_loop (n := ((el G.Actions b).length : Int)) (F := fun j => i * el G.Sizes (el G.Shape.To b) + el (el G.Actions b) j) (by omega) (by omega) ?_ ?_
        · intro j next j0 j1 hl4 hn4
          dsimp only
          refine Ret.idx b0 (by omega) ?_
          rw [if_pos (decide_eq_true j1)]
          have z5 := w6 j j0 j1
          have z := mul16 i0 (by omega) w3.1 w3.2
          refine Ret.idx b0 (by omega) (Ret.idx w2.1 (by omega) (Ret.idx j0 j1 ?_))
          rw [wrap2 z.1 (by omega) (by omega)]
          exact Ret.chk (by unfold lim; simp only [List.length_cons, List.length_nil]; omega) hn4
        · intro next
          dsimp only
          refine Ret.idx b0 (by omega) ?_
          rw [if_neg (by simp)]
          exact hn3
      · intro next hb
        dsimp only
        refine Ret.idx x0 (by omega) ?_
        rw [if_neg (by simp)]
        exact Ret.chk (by unfold lim; omega) hn2
    · intro next
      dsimp only
      rw [if_neg (by simp)]
      exact Ret.chk (by unfold lim; omega) hn
  · intro next
    dsimp only
    rw [if_neg (by simp)]
    exact Ret.some rfl

theorem l22Fits_eq {c d : XCategory} (hc : Shp c) (hd : Shp d) {U : Int → Int → Int} {V W : Int → Int → List Int} : M.spec_l22Fits (profP c d U V W) = some (decide (Within c.Objects d.Objects U)) := by
  apply Ret.ask
  have c0 := hc.n0
  have c8 := hc.n8
  have d0 := hd.n0
  have d8 := hd.n8
  have l1 : ((profP c d U V W).Sizes.length : Int) = c.Objects := by show ((tab c.Objects fun x => tab d.Objects fun y => U x y).length : Int) = _; rw [tab_length]; omega
  have l2 : ∀ x, 0 ≤ x → x < c.Objects → el (profP c d U V W).Sizes x = tab d.Objects fun y => U x y := fun x x0 x1 => by
    show el (tab c.Objects fun x => tab d.Objects fun y => U x y) x = _
    rw [el_tab x0 x1]
  unfold M.spec_l22Fits
  refine Ret.all c.Objects (fun x => ∀ y, 0 ≤ y → y < d.Objects → U x y ≤ 64) c0 (by omega) ?_ ?_
  · intro x next x0 x1 hp hn
    rw [l1, if_pos (decide_eq_true x1)]
    refine Ret.all d.Objects (fun y => U x y ≤ 64) d0 (by omega) ?_ ?_
    · intro y next y0 y1 hq hn2
      refine Ret.idx x0 (by omega) ?_
      rw [l2 x x0 x1, tab_len' _ _ d0, if_pos (decide_eq_true y1)]
      refine Ret.idx y0 (by rw [tab_len' _ _ d0]; exact y1) ?_
      rw [el_tab y0 y1]
      refine Ret.ite (fun h => Ret.some ⟨(fun h => by cases h), fun e => absurd (e x x0 x1 y y0 y1) (by have := of_decide_eq_true h; omega)⟩) (fun h => hn2 (by have : ¬ U x y > 64 := fun z => h (decide_eq_true z); omega))
    · intro next hq
      refine Ret.idx x0 (by omega) ?_
      rw [l2 x x0 x1, tab_len' _ _ d0, if_neg (by simp)]
      exact hn hq
  · intro next hp
    rw [l1, if_neg (by simp)]
    exact Ret.some ⟨fun _ => hp, fun _ => rfl⟩

theorem Pairs_1 {F G : XSetFunctor} (hF : ShpG F) (hG : ShpG G) {x y : Int} (x0 : 0 ≤ x) (x1 : x < F.Shape.Objects) (y0 : 0 ≤ y) (y1 : y < G.Shape.Objects) : M.impl_PairsProfunctor_1 x y F G = some (pU F G x y) := by
  have ls := hF.ls
  have ls' := hG.ls
  have z1 := hF.siz x x0 (by omega)
  have z2 := hG.siz y y0 (by omega)
  have z := mul16 z1.1 z1.2 z2.1 z2.2
  unfold M.impl_PairsProfunctor_1
  rw [idx_el x0 (by omega), idx_el y0 (by omega)]
  simp only [Option.bind_some]
  rw [wrap_in (by omega) (by omega)]; rfl

theorem shifts_upTo {n b : Int} (h : 0 ≤ n) : shifts (upTo n) b = tab n fun j => b + j := by
  unfold shifts
  rw [upTo_len h]
  apply tab_congr
  intro j j0 j1
  unfold upTo
  rw [el_tab j0 j1, Int.add_comm]

theorem Pairs_2 {F G : XSetFunctor} (hF : ShpG F) (hG : ShpG G) {a y : Int} (a0 : 0 ≤ a) (a1 : a < (F.Shape.From.length : Int)) (y0 : 0 ≤ y) (y1 : y < G.Shape.Objects) : M.impl_PairsProfunctor_2 a y F G = some (pV F G a y) := by
  apply Ret.eq
  have la := hF.la
  have ls' := hG.ls
  have z2 := hG.siz y y0 (by omega)
  obtain ⟨_, _, z1, _, z3, z4⟩ := setG_facts hF a0 a1
  unfold M.impl_PairsProfunctor_2
  refine Ret.idx a0 (by omega) ?_
  refine cat_loop (n := ((el F.Actions a).length : Int)) (H := fun i => tab (el G.Sizes y) fun j => el (el F.Actions a) i * el G.Sizes y + j) (by omega) (by omega) (fun i _ _ => by rw [tab_length]; omega) ?_ ?_
  · intro i next i0 i1 hb hn
    dsimp only
    rw [if_pos (decide_eq_true i1)]
    have z5 := z4 i i0 i1
    have z := mul16 z5.1 (by omega) z2.1 z2.2
    have lu := upTo_len z2.1
    have e : (tab (el G.Sizes y) fun j => el (el F.Actions a) i * el G.Sizes y + j) = shifts (upTo (el G.Sizes y)) (el (el F.Actions a) i * el G.Sizes y) := (shifts_upTo z2.1).symm
    refine Ret.idx i0 i1 (Ret.idx y0 (by omega) (Ret.call (numbers_eq z2.1 (by omega)) ?_))
    rw [wrap_in (by omega) (by omega)]
    refine Ret.call (shifted_eq (l := upTo (el G.Sizes y)) (by unfold Small; omega) z.1 (by omega) (upTo_in (by omega))) ?_
    rw [e] at hn
    have ln : ((shifts (upTo (el G.Sizes y)) (el (el F.Actions a) i * el G.Sizes y)).length : Int) = el G.Sizes y := by rw [shifts_upTo z2.1]; exact tab_len' _ _ z2.1
    exact Ret.chk (by unfold lim; omega) hn
  · intro next hb
    dsimp only
    rw [if_neg (by simp)]
    exact Ret.some rfl

theorem Pairs_3 {F G : XSetFunctor} (hF : ShpG F) (hG : ShpG G) {b x : Int} (b0 : 0 ≤ b) (b1 : b < (G.Shape.From.length : Int)) (x0 : 0 ≤ x) (x1 : x < F.Shape.Objects) : M.impl_PairsProfunctor_3 b x F G = some (pW F G b x) := by
  apply Ret.eq
  have la := hG.la
  have ls := hF.ls
  have dto := hG.cat.1.shp.lto
  have z1 := hF.siz x x0 (by omega)
  obtain ⟨_, w2, w3, w4, w5, w6⟩ := setG_facts hG b0 b1
  unfold M.impl_PairsProfunctor_3
  refine Ret.idx x0 (by omega) ?_
  refine cat_loop (n := el F.Sizes x) (H := fun i => tab ((el G.Actions b).length : Int) fun j => i * el G.Sizes (el G.Shape.To b) + el (el G.Actions b) j) z1.1 (by omega) (fun i _ _ => by rw [tab_length]; omega) ?_ ?_
  · intro i next i0 i1 hb hn
    dsimp only
    rw [if_pos (decide_eq_true i1)]
    have z := mul16 i0 (by omega) w3.1 w3.2
    have e : (tab ((el G.Actions b).length : Int) fun j => i * el G.Sizes (el G.Shape.To b) + el (el G.Actions b) j) = shifts (el G.Actions b) (i * el G.Sizes (el G.Shape.To b)) := by
      unfold shifts
      apply tab_congr; intro j _ _; rw [Int.add_comm]
    have ln : ((shifts (el G.Actions b) (i * el G.Sizes (el G.Shape.To b))).length : Int) = ((el G.Actions b).length : Int) := by unfold shifts; exact tab_len' _ _ (by omega)
    refine Ret.idx b0 (by omega) (Ret.idx b0 (by omega) (Ret.idx w2.1 w2.2 ?_))
    rw [wrap_in (by omega) (by omega)]
    refine Ret.call (shifted_eq (by unfold Small; omega) z.1 (by omega) (fun j j0 j1 => by have := w6 j j0 j1; omega)) ?_
    rw [e] at hn
    exact Ret.chk (by unfold lim; omega) hn
  · intro next hb
    dsimp only
    rw [if_neg (by simp)]
    exact Ret.some rfl

theorem prs_V {F G : XSetFunctor} (hF : ShpG F) (hG : ShpG G) {a y : Int} (a0 : 0 ≤ a) (a1 : a < (F.Shape.From.length : Int)) (y0 : 0 ≤ y) (y1 : y < G.Shape.Objects) : Small (pV F G a y) := by
  have ls' := hG.ls
  have z2 := hG.siz y y0 (by omega)
  obtain ⟨_, _, z1, _, z3, z4⟩ := setG_facts hF a0 a1
  have := cat_len' (n := ((el F.Actions a).length : Int)) (H := fun i => tab (el G.Sizes y) fun j => el (el F.Actions a) i * el G.Sizes y + j) (by omega) (fun i _ _ => by rw [tab_length]; omega)
  unfold pV Small
  omega
theorem prs_W {F G : XSetFunctor} (hF : ShpG F) (hG : ShpG G) {b x : Int} (b0 : 0 ≤ b) (b1 : b < (G.Shape.From.length : Int)) (x0 : 0 ≤ x) (x1 : x < F.Shape.Objects) : Small (pW F G b x) := by
  have ls := hF.ls
  have z1 := hF.siz x x0 (by omega)
  obtain ⟨_, w2, w3, w4, w5, w6⟩ := setG_facts hG b0 b1
  have := cat_len' (n := el F.Sizes x) (H := fun i => tab ((el G.Actions b).length : Int) fun j => i * el G.Sizes (el G.Shape.To b) + el (el G.Actions b) j) z1.1 (fun i _ _ => by rw [tab_length]; omega)
  unfold pW Small
  omega

theorem areTwoSets_eq {F G : XSetFunctor} (sF : SmallG F) (sG : SmallG G) : M.impl_areSetFunctors ([F, G] : List XSetFunctor) = some (decide (IsSet F ∧ IsSet G)) := by
  rw [areSetFunctors_eq (by simp) (by simp [sF, sG])]
  simp only [List.mem_cons, List.not_mem_nil, or_false, forall_eq_or_imp, forall_eq]

theorem PairsProfunctor_both {F G : XSetFunctor} (sF : SmallG F) (sG : SmallG G) : ∃ r w, SmallP r ∧ M.spec_PairsProfunctor F G = some (r, w) ∧ M.impl_PairsProfunctor F G = some (r, w) := by
  unfold M.spec_PairsProfunctor M.impl_PairsProfunctor
  rw [l19Is_eq sF, l19Is_eq sG, areTwoSets_eq sF sG]
  by_cases h1 : IsSet F
  · by_cases h2 : IsSet G
    · have hF := h1.1
      have hG := h2.1
      have hc := hF.cat.1.shp
      have hd := hG.cat.1.shp
      have ho := opC_shp hc
      have lto := hc.lto
      have eF : ((opC F.Shape).From.length : Int) = (F.Shape.From.length : Int) := lto
      rw [decide_eq_true h1, decide_eq_true h2, decide_eq_true (⟨h1, h2⟩ : IsSet F ∧ IsSet G), opposite_eq hc]
      simp only [Option.bind_some, if_true]
      rw [l22Pairs_eq sG hF hG]
      simp only [Option.bind_some]
      rw [l22Fits_eq ho hd]
      by_cases hw : Within (opC F.Shape).Objects G.Shape.Objects (pU F G)
      · rw [decide_eq_true hw, profunctor_eq (opC_small hc) sG.s1 ho hd (U := pU F G) (V := pV F G) (W := pW F G) (fun x y x0 x1 y0 y1 => ⟨Pairs_1 hF hG x0 x1 y0 y1, hw x x0 x1 y y0 y1⟩)
          (fun a y a0 a1 y0 y1 => Pairs_2 hF hG a0 (by omega) y0 y1) (fun b x b0 b1 x0 x1 => Pairs_3 hF hG b0 b1 x0 x1)]
        exact ⟨_, _, profP_small (opC_small hc) sG.s1 ho hd (fun a y a0 a1 y0 y1 => prs_V hF hG a0 (by omega) y0 y1) (fun b x b0 b1 x0 x1 => prs_W hF hG b0 b1 x0 x1), rfl, rfl⟩
      · rw [decide_eq_false hw, profunctor_no (opC_small hc) sG.s1 ho hd (U := pU F G) (fun x y x0 x1 y0 y1 => Pairs_1 hF hG x0 x1 y0 y1) hw]
        exact ⟨zeroP, _, zeroP_small, rfl, rfl⟩
    · rw [decide_eq_true h1, decide_eq_false h2, decide_eq_false (fun e : IsSet F ∧ IsSet G => h2 e.2)]
      exact ⟨zeroP, _, zeroP_small, rfl, rfl⟩
  · rw [decide_eq_false h1, decide_eq_false (fun e : IsSet F ∧ IsSet G => h1 e.1)]
    exact ⟨zeroP, _, zeroP_small, rfl, rfl⟩

theorem law_PairsProfunctor {a0 : XSetFunctor} {a1 : XSetFunctor} (h0 : R.XSetFunctor a0) (h1 : R.XSetFunctor a1) : M.laws_FnExactPairsProfunctor a0 a1 = some true := by
  unfold M.laws_FnExactPairsProfunctor
  obtain ⟨v0, e0, hv0⟩ := szSetFunctor_r (n := 1048576) (by decide) (by decide) (fitsG h0)
  rw [e0, Option.bind_some]
  rcases hv0 with ⟨z0, _⟩ | ⟨l0, u0, s0⟩
  · rw [if_pos (decide_eq_true z0)]
  · rw [if_neg (fun h => absurd (of_decide_eq_true h) (by omega))]
    obtain ⟨v1, e1, hv1⟩ := szSetFunctor_r (n := v0) l0 (by omega) (fitsG h1)
    rw [e1, Option.bind_some]
    rcases hv1 with ⟨z1, _⟩ | ⟨l1, u1, s1⟩
    · rw [if_pos (decide_eq_true z1)]
    · rw [if_neg (fun h => absurd (of_decide_eq_true h) (by omega))]
      rw [toSetFunctor_eq s0, Option.bind_some, toSetFunctor_eq s1, Option.bind_some]
      obtain ⟨g0, w, hg0, es, ei⟩ := PairsProfunctor_both s0 s1
      rw [es, ei]
      simp only [Option.bind_some]
      rw [eqProfunctor_refl hg0, eqSetFunctor_refl s0, eqSetFunctor_refl s1]
      obtain ⟨n0, x0, p0, q0, c0, d0, _⟩ := mh_G s0 1 (by omega) (by omega)
      obtain ⟨n1, x1, p1, q1, c1, d1, _⟩ := mh_G s1 (1 + n0) (by omega) (by omega)
      obtain ⟨n2, x2, p2, q2, c2, d2, _⟩ := mh_P hg0 1 (by omega) (by omega)
      simp only [Option.bind_some, bne_self_eq_false, Bool.false_eq_true, if_false, if_true, decide_eq_true_eq, c0, c1, c2, d2]
      rw [if_neg (by omega), if_neg (by omega)]

end Go.Gx

/- The law of MapsProfunctor. -/
namespace Go.Gx
open Classical
set_option maxHeartbeats 1000000

/-! ### how many maps there are, up to the limit -/
def cpw (n : Int) : Nat → Int
  | 0 => 1
  | k + 1 => if (65 : Int) < cpw n k * n then 65 else cpw n k * n
def cpI (m n : Int) : Int := cpw n m.toNat

theorem cpw_in {n : Int} (n0 : 0 ≤ n) : ∀ k, 0 ≤ cpw n k ∧ cpw n k ≤ 65
  | 0 => by simp [cpw]
  | k + 1 => by
    have := cpw_in n0 k
    have h : 0 ≤ cpw n k * n := Int.mul_nonneg this.1 n0
    unfold cpw
    split <;> omega
theorem cpw_up {n : Int} (n0 : 0 ≤ n) : ∀ {k : Nat}, cpw n k > 64 → ∀ j, cpw n (k + j) > 64 := by
  intro k hk j
  have hn : 1 ≤ n := by
    apply Decidable.byContradiction
    intro h
    have : n = 0 := by omega
    subst this
    cases k with
    | zero => simp [cpw] at hk
    | succ k => simp [cpw] at hk
  induction j with
  | zero => exact hk
  | succ j ih =>
    show cpw n ((k + j) + 1) > 64
    have h2 : cpw n (k + j) * 1 ≤ cpw n (k + j) * n := Int.mul_le_mul_of_nonneg_left hn (by omega)
    unfold cpw
    split
    · omega
    · omega
theorem cpI_in {m n : Int} (n0 : 0 ≤ n) : 0 ≤ cpI m n ∧ cpI m n ≤ 65 := cpw_in n0 _
theorem cpI_up {m n i : Int} (n0 : 0 ≤ n) (i1 : i ≤ m) (h : cpI i n > 64) : cpI m n > 64 := by
  unfold cpI at *
  have := cpw_up n0 h (m.toNat - i.toNat)
  rwa [show i.toNat + (m.toNat - i.toNat) = m.toNat by omega] at this
theorem cpI_succ {n i : Int} (i0 : 0 ≤ i) : cpI (i + 1) n = if (65 : Int) < cpI i n * n then 65 else cpI i n * n := by
  unfold cpI
  rw [show (i + 1).toNat = i.toNat + 1 by omega]; rfl
theorem cpI_pos {m n : Int} (m0 : 0 < m) (n0 : 0 ≤ n) (h : 0 < cpI m n) : 0 < n := by
  apply Decidable.byContradiction
  intro hn
  have : n = 0 := by omega
  subst this
  have e := cpI_succ (n := 0) (i := m - 1) (by omega)
  rw [show m - 1 + 1 = m by omega, Int.mul_zero] at e
  simp at e
  omega

theorem l22Power_r {m n : Int} (m0 : 0 ≤ m) (m1 : m ≤ 16) (n0 : 0 ≤ n) (n1 : n ≤ 16) : Ret (M.spec_l22Power m n) fun r => (r ≤ 64 ∧ r = cpI m n) ∨ (r > 64 ∧ cpI m n > 64) := by
  unfold M.spec_l22Power
  refine Ret.acc m (fun i v => (v ≤ 64 ∧ v = cpI i n) ∨ (v > 64 ∧ cpI i n > 64)) m0 (by omega) (Or.inl ⟨by decide, rfl⟩) ?_ ?_
  · intro i v next i0 i1 hv hn
    dsimp only
    rw [if_pos (decide_eq_true i1)]
    refine Ret.ite (fun h => ?_) (fun h => Ret.some ?_)
    · have h : v ≤ 64 := of_decide_eq_true h
      have hv : v = cpI i n := by rcases hv with hv | hv <;> omega
      have c := cpI_in (m := i) n0
      have b := mulB (N := 65) (M := 16) c.1 c.2 n0 n1
      refine hn _ ?_
      rw [hv, wrap_in (by omega) (by omega), cpI_succ i0]
      by_cases h2 : cpI i n * n ≤ 64
      · exact Or.inl ⟨h2, by rw [if_neg (by omega)]⟩
      · refine Or.inr ⟨by omega, ?_⟩
        split <;> omega
    · have h : ¬ v ≤ 64 := fun x => h (decide_eq_true x)
      have hv : cpI i n > 64 := by rcases hv with hv | hv <;> omega
      exact Or.inr ⟨by omega, cpI_up n0 (by omega) hv⟩
  · intro v next hv
    dsimp only
    rw [if_neg (by simp)]
    exact Ret.some hv

theorem mapCount_eq {m n : Int} (m0 : 0 ≤ m) (m1 : m ≤ 16) (n0 : 0 ≤ n) (n1 : n ≤ 16) : M.impl_mapCount m n = some (cpI m n) := by
  apply Ret.eq
  unfold M.impl_mapCount
  refine Ret.loop m (fun i s => s = (m - i, cpI i n)) m0 (by omega) (by rw [Int.sub_zero]; rfl) ?_ ?_
  · rintro i s next i0 i1 rfl hn
    dsimp only
    rw [if_pos (decide_eq_true (by omega))]
    have c := cpI_in (m := i) n0
    have b := mulB (N := 65) (M := 16) c.1 c.2 n0 n1
    refine hn _ ?_
    rw [wrap_in (by omega) (by omega), wrap_in (by omega) (by omega), ← cpI_succ i0]
    exact Prod.ext (show m - i - 1 = m - (i + 1) by omega) rfl
  · rintro s next rfl
    dsimp only
    rw [if_neg (fun h => absurd (of_decide_eq_true h) (by omega))]
    exact Ret.some rfl

/-! ### a map of a number -/
def quo (k n : Int) : Nat → Int
  | 0 => k
  | j + 1 => quo k n j / n
def mapL (m n k : Int) : List Int := tab m fun p => quo k n (m - 1 - p).toNat % n
theorem quo_nn {k n : Int} (k0 : 0 ≤ k) (n0 : 0 ≤ n) : ∀ j, 0 ≤ quo k n j
  | 0 => k0
  | j + 1 => Int.ediv_nonneg (quo_nn k0 n0 j) n0
theorem quo_le {k n : Int} (k0 : 0 ≤ k) (n0 : 0 ≤ n) : ∀ j, quo k n j ≤ k
  | 0 => Int.le_refl _
  | j + 1 => Int.le_trans (Int.ediv_le_self n (quo_nn k0 n0 j)) (quo_le k0 n0 j)

/-- The map while its places are filled from behind. -/
def mapS (m n k j : Int) : List Int := tab m fun p => if m - j ≤ p then quo k n (m - 1 - p).toNat % n else 0
theorem mapS_set {m n k j : Int} (j1 : j < m) : (mapS m n k j).set (m - 1 - j).toNat (quo k n j.toNat % n) = mapS m n k (j + 1) := by
  unfold mapS
  rw [set_tab (by omega)]
  apply tab_congr
  intro p p0 p1
  by_cases hp : p = m - 1 - j
  · subst hp
    rw [if_pos rfl, if_pos (by omega), show m - 1 - (m - 1 - j) = j by omega]
  · rw [if_neg hp]
    by_cases h2 : m - j ≤ p
    · rw [if_pos h2, if_pos (by omega)]
    · rw [if_neg h2, if_neg (by omega)]
theorem mapS_end {m n k : Int} : mapS m n k m = mapL m n k := by
  unfold mapS mapL
  apply tab_congr
  intro p p0 p1
  rw [if_pos (by omega)]
theorem mapS_start {m n k : Int} : List.replicate m.toNat (0 : Int) = mapS m n k 0 := by
  rw [rep_tab]
  unfold mapS
  apply tab_congr
  intro p p0 p1
  rw [if_neg (by omega)]
theorem mapS_len {m n k j : Int} (m0 : 0 ≤ m) : ((mapS m n k j).length : Int) = m := tab_len' _ _ m0

theorem mapAt_eq {m n k : Int} (m0 : 0 ≤ m) (m1 : m ≤ 16) (n0 : 0 ≤ n) (hn : 0 < m → 0 < n) (k0 : 0 ≤ k) (k1 : k ≤ 1024) : M.impl_mapAt m n k = some (mapL m n k) := by
  apply Ret.eq
  unfold M.impl_mapAt
  refine Ret.chk ⟨m0, by unfold lim; omega⟩ ?_
  refine Ret.loop m (fun j s => s = (mapS m n k j, quo k n j.toNat, m - 1 - j)) m0 (by omega) ?_ ?_ ?_
  · rw [wrap_in (by omega) (by omega), mapS_start (n := n) (k := k), Int.sub_zero]; rfl
  · rintro j s next j0 j1 rfl hn1
    have q := quo_nn k0 n0 j.toNat
    have q2 := quo_le k0 n0 (j + 1).toNat
    have q3 := quo_nn k0 n0 (j + 1).toNat
    have q4 : quo k n j.toNat / n = quo k n (j + 1).toNat := by
      rw [show (j + 1).toNat = j.toNat + 1 by omega]; rfl
    have hp := hn (by omega)
    dsimp only
    rw [if_pos (decide_eq_true (by omega))]
    refine Ret.chk (by omega) (Ret.idx (by omega) (by rw [mapS_len m0]; omega) (hn1 _ ?_))
    rw [tmod_nn q, tdiv_nn q, mapS_set j1, q4, wrap_in (by omega) (by omega), wrap_in (by omega) (by omega)]
    exact Prod.ext rfl (Prod.ext rfl (show m - 1 - j - 1 = m - 1 - (j + 1) by omega))
  · rintro s next rfl
    dsimp only
    rw [if_neg (fun h => absurd (of_decide_eq_true h) (by omega)), mapS_end]
    exact Ret.some rfl

theorem l22Repeat_eq {m n : Int} (m0 : 0 ≤ m) (m1 : m ≤ 16) : M.spec_l22Repeat n m = some (tab m fun _ => n) := by
  apply Ret.eq
  unfold M.spec_l22Repeat
  refine push_loop (n := m) (F := fun _ => n) m0 (by omega) ?_ ?_
  · intro i next i0 i1 hl hn
    dsimp only
    rw [if_pos (decide_eq_true i1)]
    exact Ret.chk (by unfold lim; simp only [List.length_cons, List.length_nil]; omega) hn
  · intro next
    dsimp only
    rw [if_neg (by simp)]
    exact Ret.some rfl

theorem l01At_eq {m n k : Int} (m0 : 0 ≤ m) (m1 : m ≤ 16) (n0 : 0 ≤ n) (hn : 0 < m → 0 < n) (k0 : 0 ≤ k) (k1 : k ≤ 1024) : M.spec_l01At (tab m fun _ => n) k = some (mapL m n k) := by
  apply Ret.eq
  unfold M.spec_l01At
  have lm : ((tab m fun _ => n).length : Int) = m := tab_len' _ _ m0
  rw [lm]
  refine Ret.chk ⟨m0, by unfold lim; omega⟩ ?_
  refine Ret.loop m (fun j s => s = (mapS m n k j, quo k n j.toNat, m - 1 - j)) m0 (by omega) ?_ ?_ ?_
  · rw [wrap_in (by omega) (by omega), mapS_start (n := n) (k := k), Int.sub_zero]; rfl
  · rintro j s next j0 j1 rfl hn1
    have q := quo_nn k0 n0 j.toNat
    have q2 := quo_le k0 n0 (j + 1).toNat
    have q3 := quo_nn k0 n0 (j + 1).toNat
    have q4 : quo k n j.toNat / n = quo k n (j + 1).toNat := by
      rw [show (j + 1).toNat = j.toNat + 1 by omega]; rfl
    have hp := hn (by omega)
    dsimp only
    rw [if_pos (decide_eq_true (by omega))]
    refine Ret.idx (by omega) (by omega) ?_
    rw [el_tab (by omega) (by omega)]
    refine Ret.chk (by omega) (Ret.idx (by omega) (by rw [mapS_len m0]; omega) (hn1 _ ?_))
    rw [tmod_nn q, tdiv_nn q, mapS_set j1, q4, wrap_in (by omega) (by omega), wrap_in (by omega) (by omega)]
    exact Prod.ext rfl (Prod.ext rfl (show m - 1 - j - 1 = m - 1 - (j + 1) by omega))
  · rintro s next rfl
    dsimp only
    rw [if_neg (fun h => absurd (of_decide_eq_true h) (by omega)), mapS_end]
    exact Ret.some rfl

theorem mapL_len {m n k : Int} (m0 : 0 ≤ m) : ((mapL m n k).length : Int) = m := tab_len' _ _ m0
theorem mapL_in {m n k : Int} (m0 : 0 ≤ m) (hn : 0 < m → 0 < n) : In n (mapL m n k) := by
  intro i i0 i1
  rw [mapL_len m0] at i1
  unfold mapL
  rw [el_tab i0 i1]
  have := hn (by omega)
  exact ⟨Int.emod_nonneg _ (by omega), Int.emod_lt_of_pos _ this⟩

/-! ### the number of a map -/
noncomputable def numW (n : Int) (l : List Int) : Int := l.foldl (fun a y => IntKind.i64.wrap (IntKind.i64.wrap (a * n) + y)) 0
theorem numW_succ {n : Int} {l : List Int} {i : Int} (h0 : 0 ≤ i) (h1 : i < (l.length : Int)) : numW n (l.take (i + 1).toNat) = IntKind.i64.wrap (IntKind.i64.wrap (numW n (l.take i.toNat) * n) + el l i) := by
  unfold numW
  rw [take_succ_el h0 h1, List.foldl_append]; rfl

theorem mapNumber_eq {l : List Int} {n : Int} (h : Small l) : M.impl_mapNumber l n = some (numW n l) := by
  apply Ret.eq
  unfold M.impl_mapNumber
  refine Ret.loop (l.length : Int) (fun i s => s = (i, numW n (l.take i.toNat))) (by omega) (by omega) rfl ?_ ?_
  · rintro i s next i0 i1 rfl hn
    dsimp only
    rw [if_pos (decide_eq_true i1)]
    refine Ret.idx i0 i1 (hn _ ?_)
    rw [numW_succ i0 i1, wrap_in (x := i + 1) (by omega) (by omega)]
  · rintro s next rfl
    dsimp only
    rw [if_neg (by simp)]
    exact Ret.some (by simp)

theorem l01Number_eq {l : List Int} {m n : Int} (hm : 0 ≤ m) (h : Small l) (hl : (l.length : Int) = m) : M.spec_l01Number (tab m fun _ => n) l = some (numW n l) := by
  apply Ret.eq
  unfold M.spec_l01Number
  refine Ret.loop (l.length : Int) (fun i s => s = (numW n (l.take i.toNat), i)) (by omega) (by omega) rfl ?_ ?_
  · rintro i s next i0 i1 rfl hn
    dsimp only
    rw [if_pos (decide_eq_true i1)]
    refine Ret.idx i0 (by rw [tab_len' _ _ hm]; omega) ?_
    rw [el_tab i0 (by omega)]
    refine Ret.idx i0 i1 (hn _ ?_)
    rw [numW_succ i0 i1, wrap_in (x := i + 1) (by omega) (by omega)]
  · rintro s next rfl
    dsimp only
    rw [if_neg (by simp)]
    exact Ret.some (by simp)

theorem thenL_len {a b : List Int} : ((thenL a b).length : Int) = (a.length : Int) := tab_len' _ _ (by omega)

/-! ### the profunctor of maps -/
def mU (F G : XSetFunctor) (x y : Int) : Int := cpI (el F.Sizes x) (el G.Sizes y)
noncomputable def mV (F G : XSetFunctor) (a y : Int) : List Int := tab (mU F G (el F.Shape.To a) y) fun k => numW (el G.Sizes y) (thenL (el F.Actions a) (mapL (el F.Sizes (el F.Shape.To a)) (el G.Sizes y) k))
noncomputable def mW (F G : XSetFunctor) (b x : Int) : List Int := tab (mU F G x (el G.Shape.From b)) fun k => numW (el G.Sizes (el G.Shape.To b)) (thenL (mapL (el F.Sizes x) (el G.Sizes (el G.Shape.From b)) k) (el G.Actions b))

theorem mU_pos {F G : XSetFunctor} {x y k : Int} (z : 0 ≤ el G.Sizes y) (k0 : 0 ≤ k) (k1 : k < mU F G x y) : 0 < el F.Sizes x → 0 < el G.Sizes y := fun h => cpI_pos h z (by unfold mU at k1; omega)

theorem Maps_1 {F G : XSetFunctor} (hF : ShpG F) (hG : ShpG G) {x y : Int} (x0 : 0 ≤ x) (x1 : x < F.Shape.Objects) (y0 : 0 ≤ y) (y1 : y < G.Shape.Objects) : M.impl_MapsProfunctor_1 x y F G = some (mU F G x y) := by
  have ls := hF.ls
  have ls' := hG.ls
  have z1 := hF.siz x x0 (by omega)
  have z2 := hG.siz y y0 (by omega)
  unfold M.impl_MapsProfunctor_1
  rw [idx_el x0 (by omega), idx_el y0 (by omega)]
  simp only [Option.bind_some]
  rw [mapCount_eq z1.1 z1.2 z2.1 z2.2]; rfl

theorem Maps_2 {F G : XSetFunctor} (hF : ShpG F) (hG : ShpG G) {a y : Int} (a0 : 0 ≤ a) (a1 : a < (F.Shape.From.length : Int)) (y0 : 0 ≤ y) (y1 : y < G.Shape.Objects) : M.impl_MapsProfunctor_2 a y F G = some (mV F G a y) := by
  apply Ret.eq
  have la := hF.la
  have ls' := hG.ls
  have lto := hF.cat.1.shp.lto
  have z2 := hG.siz y y0 (by omega)
  obtain ⟨_, x2, z1, _, z3, z4⟩ := setG_facts hF a0 a1
  have c : 0 ≤ mU F G (el F.Shape.To a) y ∧ mU F G (el F.Shape.To a) y ≤ 65 := cpI_in z2.1
  unfold M.impl_MapsProfunctor_2
  refine Ret.idx a0 (by omega) (Ret.idx x2.1 x2.2 (Ret.idx y0 (by omega) (Ret.call (mapCount_eq z1.1 z1.2 z2.1 z2.2) ?_)))
  refine push_loop (n := mU F G (el F.Shape.To a) y) (F := fun k => numW (el G.Sizes y) (thenL (el F.Actions a) (mapL (el F.Sizes (el F.Shape.To a)) (el G.Sizes y) k))) c.1 (by omega) ?_ ?_
  · intro k next k0 k1 hl hn
    dsimp only
    rw [if_pos (show decide (k < cpI (el F.Sizes (el F.Shape.To a)) (el G.Sizes y)) = true from decide_eq_true k1)]
    have hp := mU_pos z2.1 k0 k1
    have ll : ((thenL (el F.Actions a) (mapL (el F.Sizes (el F.Shape.To a)) (el G.Sizes y) k)).length : Int) = ((el F.Actions a).length : Int) := thenL_len
    refine Ret.idx a0 (by omega) (Ret.call (mapAt_eq z1.1 z1.2 z2.1 hp k0 (by omega)) (Ret.call (then2_eq (by unfold Small; omega) (by rw [mapL_len z1.1]; exact z4)) (Ret.call (mapNumber_eq (by unfold Small; omega)) (Ret.chk ?_ hn))))
    unfold lim; simp only [List.length_cons, List.length_nil]; omega
  · intro next
    dsimp only
    rw [if_neg (show ¬ decide (mU F G (el F.Shape.To a) y < cpI (el F.Sizes (el F.Shape.To a)) (el G.Sizes y)) = true from fun h => absurd (of_decide_eq_true h) (Int.lt_irrefl _))]
    exact Ret.some rfl

theorem Maps_3 {F G : XSetFunctor} (hF : ShpG F) (hG : ShpG G) {b x : Int} (b0 : 0 ≤ b) (b1 : b < (G.Shape.From.length : Int)) (x0 : 0 ≤ x) (x1 : x < F.Shape.Objects) : M.impl_MapsProfunctor_3 b x F G = some (mW F G b x) := by
  apply Ret.eq
  have la := hG.la
  have ls := hF.ls
  have dto := hG.cat.1.shp.lto
  have z1 := hF.siz x x0 (by omega)
  obtain ⟨w1, w2, w3, w4, w5, w6⟩ := setG_facts hG b0 b1
  have z2 := hG.siz _ w1.1 w1.2
  have c : 0 ≤ mU F G x (el G.Shape.From b) ∧ mU F G x (el G.Shape.From b) ≤ 65 := cpI_in z2.1
  unfold M.impl_MapsProfunctor_3
  refine Ret.idx x0 (by omega) (Ret.idx b0 b1 (Ret.idx w1.1 w1.2 (Ret.call (mapCount_eq z1.1 z1.2 z2.1 z2.2) ?_)))
  refine push_loop (n := mU F G x (el G.Shape.From b)) (F := fun k => numW (el G.Sizes (el G.Shape.To b)) (thenL (mapL (el F.Sizes x) (el G.Sizes (el G.Shape.From b)) k) (el G.Actions b))) c.1 (by omega) ?_ ?_
  · intro k next k0 k1 hl hn
    dsimp only
    rw [if_pos (show decide (k < cpI (el F.Sizes x) (el G.Sizes (el G.Shape.From b))) = true from decide_eq_true k1)]
    have hp := mU_pos z2.1 k0 k1
    have l1 := mapL_len (n := el G.Sizes (el G.Shape.From b)) (k := k) z1.1
    have ll : ((thenL (mapL (el F.Sizes x) (el G.Sizes (el G.Shape.From b)) k) (el G.Actions b)).length : Int) = ((mapL (el F.Sizes x) (el G.Sizes (el G.Shape.From b)) k).length : Int) := thenL_len
    refine Ret.call (mapAt_eq z1.1 z1.2 z2.1 hp k0 (by omega)) (Ret.idx b0 (by omega) (Ret.call (then2_eq (by unfold Small; omega) (by rw [w4]; exact mapL_in z1.1 hp)) (Ret.idx b0 (by omega) (Ret.idx w2.1 w2.2 (Ret.call (mapNumber_eq (by unfold Small; omega)) (Ret.chk ?_ hn))))))
    unfold lim; simp only [List.length_cons, List.length_nil]; omega
  · intro next
    dsimp only
    rw [if_neg (show ¬ decide (mU F G x (el G.Shape.From b) < cpI (el F.Sizes x) (el G.Sizes (el G.Shape.From b))) = true from fun h => absurd (of_decide_eq_true h) (Int.lt_irrefl _))]
    exact Ret.some rfl

theorem spec_Maps {F G : XSetFunctor} (sF : SmallG F) (sG : SmallG G) (hF : IsSet F) (hG : IsSet G) :
    M.spec_MapsProfunctor F G = some (if Within F.Shape.Objects G.Shape.Objects (mU F G) then (profP F.Shape G.Shape (mU F G) (mV F G) (mW F G), 0) else (zeroP, 3)) := by
  apply Ret.eq
  have hF' := hF
  have hG' := hG
  have hF := hF.1
  have hG := hG.1
  have hc := hF.cat.1.shp
  have hd := hG.cat.1.shp
  have c0 := hc.n0
  have c8 := hc.n8
  have d0 := hd.n0
  have d8 := hd.n8
  have cm := hc.m40
  have dm := hd.m40
  have lto := hc.lto
  have dto := hd.lto
  have la := hF.la
  have ls := hF.ls
  have la' := hG.la
  have ls' := hG.ls
  unfold M.spec_MapsProfunctor
  refine Ret.call (l19Is_eq sF) ?_
  rw [if_pos (decide_eq_true hF')]
  refine Ret.call (l19Is_eq sG) ?_
  rw [if_pos (decide_eq_true hG')]
  refine Ret.call (l02Own_eq sF.s1) (Ret.call (l02Own_eq sG.s1) ?_)
  refine Ret.acc F.Shape.Objects (fun i s => s = (tab i fun x => tab G.Shape.Objects fun y => mU F G x y) ∧ Within i G.Shape.Objects (mU F G)) c0 (by omega) ⟨rfl, fun x x0 x1 => by omega⟩ ?_ ?_
  · rintro x s next x0 x1 ⟨rfl, hp⟩ hn
    dsimp only
    rw [if_pos (decide_eq_true x1)]
    refine Ret.acc G.Shape.Objects (fun j s => s = (tab j fun y => mU F G x y) ∧ ∀ y, 0 ≤ y → y < j → mU F G x y ≤ 64) d0 (by omega) ⟨rfl, fun y y0 y1 => by omega⟩ ?_ ?_
    · rintro y s next y0 y1 ⟨rfl, hq⟩ hn2
      dsimp only
      rw [if_pos (decide_eq_true y1)]
      have z1 := hF.siz x x0 (by omega)
      have z2 := hG.siz y y0 (by omega)
      have hl : ((tab y fun y => mU F G x y).length : Int) = y := tab_len' _ _ y0
      refine Ret.idx x0 (by omega) (Ret.idx y0 (by omega) (Ret.bind (l22Power_r z1.1 z1.2 z2.1 z2.2) fun r hr => ?_))
      refine Ret.ite (fun h => Ret.some ?_) (fun h => ?_)
      · have h := of_decide_eq_true h
        rw [if_neg]
        · rfl
        · intro hw
          have := hw x x0 x1 y y0 y1
          unfold mU at this
          omega
      · have h : ¬ r > 64 := fun z => h (decide_eq_true z)
        have hr : r = mU F G x y := by unfold mU; omega
        subst hr
        refine Ret.chk (by unfold lim; simp only [List.length_cons, List.length_nil]; omega) (hn2 _ ⟨(tab_succ (fun y => mU F G x y) y0).symm, fun z z0 z1 => ?_⟩)
        by_cases hz : z = y
        · subst hz; omega
        · exact hq z z0 (by omega)
    · rintro s next ⟨rfl, hq⟩
      dsimp only
      rw [if_neg (by simp)]
      refine Ret.chk ?_ (hn _ ⟨(tab_succ (fun x => tab G.Shape.Objects fun y => mU F G x y) x0).symm, fun z z0 z1 y y0 y1 => ?_⟩)
      · rw [tab_length]; unfold lim; omega
      · by_cases hz : z = x
        · subst hz; exact hq y y0 y1
        · exact hp z z0 (by omega) y y0 y1
  rintro s next ⟨rfl, hw⟩
  dsimp only
  rw [if_neg (by simp), if_pos hw]
  have eS : ∀ x y, 0 ≤ x → x < F.Shape.Objects → 0 ≤ y → y < G.Shape.Objects → el (el (tab F.Shape.Objects fun x => tab G.Shape.Objects fun y => mU F G x y) x) y = mU F G x y := fun x y x0 x1 y0 y1 => by rw [el_tab x0 x1, el_tab y0 y1]
  refine push_loop (n := (F.Shape.From.length : Int)) (F := fun a => tab G.Shape.Objects fun y => mV F G a y) (by omega) (by omega) ?_ ?_
  · intro a next a0 a1 hl hn
    dsimp only
    rw [if_pos (decide_eq_true a1)]
    obtain ⟨x1, x2, z1, z6, z3, z4⟩ := setG_facts hF a0 a1
    refine push_loop (n := G.Shape.Objects) (F := fun y => mV F G a y) d0 (by omega) ?_ ?_
    · intro y next y0 y1 hl2 hn2
      dsimp only
      rw [if_pos (decide_eq_true y1)]
      have z2 := hG.siz y y0 (by omega)
      have c : 0 ≤ mU F G (el F.Shape.To a) y ∧ mU F G (el F.Shape.To a) y ≤ 65 := cpI_in z2.1
      have zf := hF.siz _ x1.1 x1.2
      refine Ret.idx y0 (by omega) (Ret.idx a0 (by omega) (Ret.idx x2.1 x2.2 (Ret.call (l22Repeat_eq z1.1 z1.2) (Ret.idx a0 a1 (Ret.idx x1.1 x1.2 (Ret.call (l22Repeat_eq zf.1 zf.2) ?_))))))
      refine push_loop (n := mU F G (el F.Shape.To a) y) (F := fun k => numW (el G.Sizes y) (thenL (el F.Actions a) (mapL (el F.Sizes (el F.Shape.To a)) (el G.Sizes y) k))) c.1 (by omega) ?_ ?_
      · intro k next k0 k1 hl3 hn3
        dsimp only
        refine Ret.idx x2.1 (by rw [tab_len' _ _ c0]; omega) ?_
        rw [el_tab x2.1 (by omega)]
        refine Ret.idx y0 (by rw [tab_len' _ _ d0]; exact y1) ?_
        rw [el_tab y0 y1, if_pos (decide_eq_true k1)]
        have hp := mU_pos z2.1 k0 k1
        have ll : ((thenL (el F.Actions a) (mapL (el F.Sizes (el F.Shape.To a)) (el G.Sizes y) k)).length : Int) = ((el F.Actions a).length : Int) := thenL_len
        refine Ret.idx a0 (by omega) (Ret.call (l01At_eq z1.1 z1.2 z2.1 hp k0 (by omega)) (Ret.call (l01Then_eq (by unfold Small; omega) (by rw [mapL_len z1.1]; exact z4)) (Ret.call (l01Number_eq zf.1 (by unfold Small; omega) (by omega)) (Ret.chk ?_ hn3))))
        unfold lim; simp only [List.length_cons, List.length_nil]; omega
      · intro next
        dsimp only
        refine Ret.idx x2.1 (by rw [tab_len' _ _ c0]; omega) ?_
        rw [el_tab x2.1 (by omega)]
        refine Ret.idx y0 (by rw [tab_len' _ _ d0]; exact y1) ?_
        rw [el_tab y0 y1, if_neg (by simp)]
        exact Ret.chk (by unfold lim; omega) hn2
    · intro next
      dsimp only
      rw [if_neg (by simp)]
      exact Ret.chk (by unfold lim; omega) hn
  intro next
  dsimp only
  rw [if_neg (by simp)]
  refine push_loop (n := (G.Shape.From.length : Int)) (F := fun b => tab F.Shape.Objects fun x => mW F G b x) (by omega) (by omega) ?_ ?_
  · intro b next b0 b1 hl hn
    dsimp only
    rw [if_pos (decide_eq_true b1)]
    obtain ⟨w1, w2, w3, w4, w5, w6⟩ := setG_facts hG b0 b1
    have z2 := hG.siz _ w1.1 w1.2
    refine push_loop (n := F.Shape.Objects) (F := fun x => mW F G b x) c0 (by omega) ?_ ?_
    · intro x next x0 x1 hl2 hn2
      dsimp only
      rw [if_pos (decide_eq_true x1)]
      have z1 := hF.siz x x0 (by omega)
      have c : 0 ≤ mU F G x (el G.Shape.From b) ∧ mU F G x (el G.Shape.From b) ≤ 65 := cpI_in z2.1
      refine Ret.idx b0 b1 (Ret.idx w1.1 w1.2 (Ret.idx x0 (by omega) (Ret.call (l22Repeat_eq z1.1 z1.2) (Ret.idx b0 (by omega) (Ret.idx w2.1 w2.2 (Ret.call (l22Repeat_eq z1.1 z1.2) ?_))))))
      refine push_loop (n := mU F G x (el G.Shape.From b)) (F := fun k => numW (el G.Sizes (el G.Shape.To b)) (thenL (mapL (el F.Sizes x) (el G.Sizes (el G.Shape.From b)) k) (el G.Actions b))) c.1 (by omega) ?_ ?_
      · intro k next k0 k1 hl3 hn3
        dsimp only
        refine Ret.idx x0 (by rw [tab_len' _ _ c0]; omega) ?_
        rw [el_tab x0 x1]
        refine Ret.idx w1.1 (by rw [tab_len' _ _ d0]; omega) ?_
        rw [el_tab w1.1 (by omega), if_pos (decide_eq_true k1)]
        have hp := mU_pos z2.1 k0 k1
        have l1 := mapL_len (n := el G.Sizes (el G.Shape.From b)) (k := k) z1.1
        have ll : ((thenL (mapL (el F.Sizes x) (el G.Sizes (el G.Shape.From b)) k) (el G.Actions b)).length : Int) = ((mapL (el F.Sizes x) (el G.Sizes (el G.Shape.From b)) k).length : Int) := thenL_len
        refine Ret.call (l01At_eq z1.1 z1.2 z2.1 hp k0 (by omega)) (Ret.idx b0 (by omega) (Ret.call (l01Then_eq (by unfold Small; omega) (by rw [w4]; exact mapL_in z1.1 hp)) (Ret.call (l01Number_eq z1.1 (by unfold Small; omega) (by omega)) (Ret.chk ?_ hn3))))
        unfold lim; simp only [List.length_cons, List.length_nil]; omega
      · intro next
        dsimp only
        refine Ret.idx x0 (by rw [tab_len' _ _ c0]; omega) ?_
        rw [el_tab x0 x1]
        refine Ret.idx w1.1 (by rw [tab_len' _ _ d0]; omega) ?_
        rw [el_tab w1.1 (by omega), if_neg (by simp)]
        exact Ret.chk (by unfold lim; omega) hn2
    · intro next
      dsimp only
      rw [if_neg (by simp)]
      exact Ret.chk (by unfold lim; omega) hn
  · intro next
    dsimp only
    rw [if_neg (by simp)]
    exact Ret.some rfl

theorem mps_V {F G : XSetFunctor} (hG : ShpG G) {a y : Int} (y0 : 0 ≤ y) (y1 : y < G.Shape.Objects) : Small (mV F G a y) := by
  have ls' := hG.ls
  have z2 := hG.siz y y0 (by omega)
  have c : 0 ≤ mU F G (el F.Shape.To a) y ∧ mU F G (el F.Shape.To a) y ≤ 65 := cpI_in z2.1
  unfold mV Small
  rw [tab_len' _ _ c.1]; omega
theorem mps_W {F G : XSetFunctor} (hG : ShpG G) {b x : Int} (b0 : 0 ≤ b) (b1 : b < (G.Shape.From.length : Int)) : Small (mW F G b x) := by
  obtain ⟨w1, _⟩ := setG_facts hG b0 b1
  have z2 := hG.siz _ w1.1 w1.2
  have c : 0 ≤ mU F G x (el G.Shape.From b) ∧ mU F G x (el G.Shape.From b) ≤ 65 := cpI_in z2.1
  unfold mW Small
  rw [tab_len' _ _ c.1]; omega

theorem MapsProfunctor_both {F G : XSetFunctor} (sF : SmallG F) (sG : SmallG G) : ∃ r w, SmallP r ∧ M.spec_MapsProfunctor F G = some (r, w) ∧ M.impl_MapsProfunctor F G = some (r, w) := by
  by_cases h : IsSet F ∧ IsSet G
  · have hF := h.1.1
    have hG := h.2.1
    have hc := hF.cat.1.shp
    have hd := hG.cat.1.shp
    rw [spec_Maps sF sG h.1 h.2]
    unfold M.impl_MapsProfunctor
    rw [areTwoSets_eq sF sG, decide_eq_true h]
    simp only [Option.bind_some, if_true]
    by_cases hw : Within F.Shape.Objects G.Shape.Objects (mU F G)
    · rw [if_pos hw, profunctor_eq sF.s1 sG.s1 hc hd (U := mU F G) (V := mV F G) (W := mW F G) (fun x y x0 x1 y0 y1 => ⟨Maps_1 hF hG x0 x1 y0 y1, hw x x0 x1 y y0 y1⟩)
        (fun a y a0 a1 y0 y1 => Maps_2 hF hG a0 a1 y0 y1) (fun b x b0 b1 x0 x1 => Maps_3 hF hG b0 b1 x0 x1)]
      exact ⟨_, _, profP_small sF.s1 sG.s1 hc hd (fun a y a0 a1 y0 y1 => mps_V hG y0 y1) (fun b x b0 b1 x0 x1 => mps_W hG b0 b1), rfl, rfl⟩
    · rw [if_neg hw, profunctor_no sF.s1 sG.s1 hc hd (U := mU F G) (fun x y x0 x1 y0 y1 => Maps_1 hF hG x0 x1 y0 y1) hw]
      exact ⟨zeroP, _, zeroP_small, rfl, rfl⟩
  · refine ⟨zeroP, 1, zeroP_small, ?_, ?_⟩
    · unfold M.spec_MapsProfunctor
      rw [l19Is_eq sF, l19Is_eq sG]
      by_cases h1 : IsSet F
      · rw [decide_eq_true h1, decide_eq_false (fun h2 => h ⟨h1, h2⟩)]; rfl
      · rw [decide_eq_false h1]; rfl
    · unfold M.impl_MapsProfunctor
      rw [areTwoSets_eq sF sG, decide_eq_false h]; rfl

theorem law_MapsProfunctor {a0 : XSetFunctor} {a1 : XSetFunctor} (h0 : R.XSetFunctor a0) (h1 : R.XSetFunctor a1) : M.laws_FnExactMapsProfunctor a0 a1 = some true := by
  unfold M.laws_FnExactMapsProfunctor
  obtain ⟨v0, e0, hv0⟩ := szSetFunctor_r (n := 1048576) (by decide) (by decide) (fitsG h0)
  rw [e0, Option.bind_some]
  rcases hv0 with ⟨z0, _⟩ | ⟨l0, u0, s0⟩
  · rw [if_pos (decide_eq_true z0)]
  · rw [if_neg (fun h => absurd (of_decide_eq_true h) (by omega))]
    obtain ⟨v1, e1, hv1⟩ := szSetFunctor_r (n := v0) l0 (by omega) (fitsG h1)
    rw [e1, Option.bind_some]
    rcases hv1 with ⟨z1, _⟩ | ⟨l1, u1, s1⟩
    · rw [if_pos (decide_eq_true z1)]
    · rw [if_neg (fun h => absurd (of_decide_eq_true h) (by omega))]
      rw [toSetFunctor_eq s0, Option.bind_some, toSetFunctor_eq s1, Option.bind_some]
      obtain ⟨g0, w, hg0, es, ei⟩ := MapsProfunctor_both s0 s1
      rw [es, ei]
      simp only [Option.bind_some]
      rw [eqProfunctor_refl hg0, eqSetFunctor_refl s0, eqSetFunctor_refl s1]
      obtain ⟨n0, x0, p0, q0, c0, d0, _⟩ := mh_G s0 1 (by omega) (by omega)
      obtain ⟨n1, x1, p1, q1, c1, d1, _⟩ := mh_G s1 (1 + n0) (by omega) (by omega)
      obtain ⟨n2, x2, p2, q2, c2, d2, _⟩ := mh_P hg0 1 (by omega) (by omega)
      simp only [Option.bind_some, bne_self_eq_false, Bool.false_eq_true, if_false, if_true, decide_eq_true_eq, c0, c1, c2, d2]
      rw [if_neg (by omega), if_neg (by omega)]

end Go.Gx
