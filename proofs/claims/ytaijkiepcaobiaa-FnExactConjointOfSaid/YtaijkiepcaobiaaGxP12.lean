/- The law of HomProfunctor. -/
import Derived.Test.YtaijkiepcaobiaaGxPn
namespace Go.Gx
open Classical
set_option maxHeartbeats 1000000

/-! ### marks on lists of lists of lists -/
def rS (x : List (List Int)) (k : Int) : Int × List (List Int) := (M.laws_markInt64SS x k).getD (0, [])
def ksN (l : List (List (List Int))) (k : Int) : Nat → Int
  | 0 => k
  | i + 1 => (rS (el l (i : Int)) (ksN l k i)).1
def ks (l : List (List (List Int))) (k i : Int) : Int := ksN l k i.toNat
theorem ks_succ {l : List (List (List Int))} {k i : Int} (h : 0 ≤ i) : ks l k (i + 1) = (rS (el l i) (ks l k i)).1 := by
  unfold ks
  rw [show (i + 1).toNat = i.toNat + 1 by omega]
  show (rS (el l (i.toNat : Int)) _).1 = _
  rw [Int.toNat_of_nonneg h]

def SmallR (r : List (List Int)) : Prop := Small r ∧ ∀ q ∈ r, Small q

theorem rS_spec {x : List (List Int)} (h : SmallR x) {k : Int} (h0 : 0 ≤ k) (h1 : k + 1099511627776 ≤ 2305843009213693952) :
    M.laws_markInt64SS x k = some (rS x k) ∧ M.laws_heldInt64SS (rS x k).2 k = some (rS x k).1 ∧ k ≤ (rS x k).1 ∧ (rS x k).1 ≤ k + 1099511627776 := by
  obtain ⟨n, x', a, b, e, f, _⟩ := mh_SS h.1 h.2 k h0 h1
  have er : rS x k = (k + n, x') := by unfold rS; rw [e]; rfl
  rw [er]
  exact ⟨e, f, by dsimp only; omega, by dsimp only; omega⟩

theorem ks_le {l : List (List (List Int))} (hr : ∀ r ∈ l, SmallR r) (hl : (l.length : Int) ≤ 1024) {k : Int} (h0 : 0 ≤ k) (h1 : k + 1125899906842624 ≤ 2305843009213693952) :
    ∀ i : Nat, (i : Int) ≤ (l.length : Int) → k ≤ ks l k (i : Int) ∧ ks l k (i : Int) ≤ k + (i : Int) * 1099511627776
  | 0, _ => by
    have : ks l k ((0 : Nat) : Int) = k := rfl
    rw [this]; omega
  | i + 1, hi => by
    have h2 := ks_le hr hl h0 h1 i (by omega)
    have h3 := rS_spec (hr _ (el_mem (l := l) (i := (i : Int)) (by omega) (by omega))) (k := ks l k (i : Int)) (by omega) (by omega)
    rw [show ((i + 1 : Nat) : Int) = (i : Int) + 1 by omega, ks_succ (by omega)]
    omega
theorem ks_le' {l : List (List (List Int))} (hr : ∀ r ∈ l, SmallR r) (hl : (l.length : Int) ≤ 1024) {k : Int} (h0 : 0 ≤ k) (h1 : k + 1125899906842624 ≤ 2305843009213693952) {i : Int} (i0 : 0 ≤ i) (i1 : i ≤ (l.length : Int)) :
    k ≤ ks l k i ∧ ks l k i ≤ k + i * 1099511627776 := by
  have := ks_le hr hl h0 h1 i.toNat (by omega)
  rwa [Int.toNat_of_nonneg i0] at this

theorem mh_SSS {l : List (List (List Int))} (hl : (l.length : Int) ≤ 1024) (hr : ∀ r ∈ l, SmallR r) : MH 1125899906842624 M.laws_markInt64SSS M.laws_heldInt64SSS (fun _ _ => True) l := by
  intro k h0 h1
  have hb := ks_le' hr hl h0 h1 (i := (l.length : Int)) (by omega) (by omega)
  have e1 : (((l.length : Int).toNat : Nat) : Int) = (l.length : Int) := by omega
  refine ⟨ks l k (l.length : Int) - k, tab (l.length : Int) fun j => (rS (el l j) (ks l k j)).2, by omega, by omega, ?_, ?_, trivial⟩
  · rw [show k + (ks l k (l.length : Int) - k) = ks l k (l.length : Int) by omega]
    apply Ret.eq
    unfold M.laws_markInt64SSS
    refine Ret.loop (l.length : Int) (fun i s => s = (tab (l.length : Int) fun j => if j < i then (rS (el l j) (ks l k j)).2 else el l j, ks l k i, i)) (by omega) (by omega) ?_ ?_ ?_
    · refine Prod.ext ?_ rfl
      conv => lhs; rw [← tab_el l]
      dsimp only; apply tab_congr; intro j j0 j1; rw [if_neg (by omega)]
    · rintro i s next i0 i1 rfl hn
      dsimp only
      simp only [decide_eq_true_eq, tab_length, e1]
      rw [if_pos i1]
      have hk := ks_le' hr hl h0 h1 i0 (by omega)
      obtain ⟨q1, q2, q3, q4⟩ := rS_spec (hr _ (el_mem i0 i1)) (k := ks l k i) (by omega) (by omega)
      refine Ret.idx i0 (by rw [tab_length]; omega) ?_
      rw [el_tab i0 i1, if_neg (by omega)]
      refine Ret.call q1 (hn _ ?_)
      rw [set_tab i0, wrap_in (by omega) (by omega), ← ks_succ i0]
      refine Prod.ext ?_ rfl
      dsimp only; apply tab_congr; intro j j0 j1
      by_cases hj : j = i
      · subst hj; rw [if_pos rfl, if_pos (show j < j + 1 by omega)]
      · rw [if_neg hj]
        by_cases hlt : j < i
        · rw [if_pos hlt, if_pos (show j < i + 1 by omega)]
        · rw [if_neg hlt, if_neg (show ¬ j < i + 1 by omega)]
    · rintro s next rfl
      dsimp only
      simp only [decide_eq_true_eq, tab_length, e1]
      rw [if_neg (by omega)]
      refine Ret.some (Prod.ext rfl ?_)
      dsimp only; apply tab_congr; intro j j0 j1; rw [if_pos j1]
  · rw [show k + (ks l k (l.length : Int) - k) = ks l k (l.length : Int) by omega]
    apply Ret.eq
    unfold M.laws_heldInt64SSS
    refine Ret.loop (l.length : Int) (fun i s => s = (ks l k i, i)) (by omega) (by omega) rfl ?_ ?_
    · rintro i s next i0 i1 rfl hn
      dsimp only
      simp only [decide_eq_true_eq, tab_length, e1]
      rw [if_pos i1]
      have hk := ks_le' hr hl h0 h1 i0 (by omega)
      obtain ⟨q1, q2, q3, q4⟩ := rS_spec (hr _ (el_mem i0 i1)) (k := ks l k i) (by omega) (by omega)
      refine Ret.idx i0 (by rw [tab_length]; omega) ?_
      rw [el_tab i0 i1]
      refine Ret.call q2 ?_
      rw [if_neg (by omega)]
      refine hn _ ?_
      rw [wrap_in (by omega) (by omega), ← ks_succ i0]
    · rintro s next rfl
      dsimp only
      simp only [decide_eq_true_eq, tab_length, e1]
      rw [if_neg (by omega)]
      exact Ret.some rfl

theorem eqInt64SSS_refl {l : List (List (List Int))} (h : Small l) (hr : ∀ r ∈ l, SmallR r) : M.laws_eqInt64SSS l l = some true := by
  apply Ret.eq
  unfold M.laws_eqInt64SSS
  simp only [bne_self_eq_false, Bool.false_eq_true, if_false, decide_eq_true_eq]
  refine Ret.all (l.length : Int) (fun _ => True) (by omega) (by omega) ?_ ?_
  · intro i next hi0 hi1 hp hn1
    have hx := hr _ (el_mem hi0 hi1)
    rw [if_pos hi1]
    exact Ret.idx hi0 hi1 (Ret.idx hi0 hi1 (Ret.call (eqInt64SS_refl hx.1 hx.2) (hn1 trivial)))
  · intro next hp
    rw [if_neg (by omega)]
    exact Ret.some rfl

structure SmallP (p : XProfunctor) : Prop where
  s1 : SmallC p.Source
  s2 : SmallC p.Target
  s3 : SmallR p.Sizes
  l4 : (p.Before.length : Int) ≤ 1024
  s4 : ∀ r ∈ p.Before, SmallR r
  l5 : (p.Behind.length : Int) ≤ 1024
  s5 : ∀ r ∈ p.Behind, SmallR r

theorem eqProfunctor_refl {p : XProfunctor} (h : SmallP p) : M.laws_eqProfunctor p p = some true := by
  have l4 := h.l4
  have l5 := h.l5
  unfold M.laws_eqProfunctor
  rw [eqCategory_refl h.s1, eqCategory_refl h.s2, eqInt64SS_refl h.s3.1 h.s3.2, eqInt64SSS_refl (by unfold Small; omega) h.s4, eqInt64SSS_refl (by unfold Small; omega) h.s5]; simp

theorem mh_P {p : XProfunctor} (h : SmallP p) : MH 2255098354860032 M.laws_markProfunctor M.laws_heldProfunctor (fun _ _ => True) p := by
  intro k h0 h1
  obtain ⟨n1, l1, a1, b1, e1, f1, g1⟩ := mh_C h.s1 k h0 (by omega)
  obtain ⟨n2, l2, a2, b2, e2, f2, g2⟩ := mh_C h.s2 (k + n1) (by omega) (by omega)
  obtain ⟨n3, l3, a3, b3, e3, f3, _⟩ := mh_SS h.s3.1 h.s3.2 (k + n1 + n2) (by omega) (by omega)
  obtain ⟨n4, l4, a4, b4, e4, f4, _⟩ := mh_SSS h.l4 h.s4 (k + n1 + n2 + n3) (by omega) (by omega)
  obtain ⟨n5, l5, a5, b5, e5, f5, _⟩ := mh_SSS h.l5 h.s5 (k + n1 + n2 + n3 + n4) (by omega) (by omega)
  refine ⟨n1 + n2 + n3 + n4 + n5, ⟨l1, l2, l3, l4, l5⟩, by omega, by omega, ?_, ?_, trivial⟩
  · unfold M.laws_markProfunctor
    simp only [e1, e2, e3, e4, e5, Option.bind_some, Option.some.injEq, Prod.mk.injEq]
    refine ⟨by omega, ?_⟩
    rw [← g1, ← g2]
  · unfold M.laws_heldProfunctor
    simp only [f1, f2, f3, f4, f5, Option.bind_some, decide_eq_true_eq]
    rw [if_neg (by omega), if_neg (by omega), if_neg (by omega), if_neg (by omega), if_neg (by omega)]
    simp only [Option.some.injEq]; omega

/-! ### the identity -/
theorem two_id {c : XCategory} (h : Shp c) : Two (idF c) (idF c) := by
  have n0 := h.n0
  have lo : ((idF c).Objects.length : Int) = c.Objects := by unfold idF; dsimp only; rw [tab_length]; omega
  have la : ((idF c).Arrows.length : Int) = (c.From.length : Int) := by unfold idF; dsimp only; rw [tab_length]; omega
  have ia : In (c.From.length : Int) (idF c).Arrows := fun i i0 i1 => by
    rw [la] at i1
    have e : el (idF c).Arrows i = i := el_tab (f := fun j => j) i0 i1
    omega
  exact ⟨h, h, h, lo, la, lo, la, ia, ia⟩

theorem natP_small {f g : XFunctor} (ss : SmallC f.Source) (sg : SmallC g.Source) (h : Two f g) : SmallP (natP f g) := by
  have f0 := h.sf.n0
  have f8 := h.sf.n8
  have g0 := h.sg.n0
  have g8 := h.sg.n8
  have fm := h.sf.m40
  have gm := h.sg.m40
  have big : ∀ {α : Type} {n : Int} (F : Int → α), n ≤ 1024 → ((tab n F).length : Int) ≤ 1024 := fun F hn => by rw [tab_length]; omega
  have sm : ∀ {α : Type} {n : Int} (F : Int → α), n ≤ 1024 → Small (tab n F) := fun F hn => by unfold Small; rw [tab_length]; omega
  have hb : ∀ x y, Small (befL f g x y) := fun x y => by
    have h40 : ((atL f g (el f.Source.To x) y).length : Int) ≤ 40 := homL_len h.st _ _
    unfold befL Small; rw [List.length_map]; omega
  have hh : ∀ x y, Small (behL f g x y) := fun x y => by
    have h40 : ((atL f g y (el g.Source.From x)).length : Int) ≤ 40 := homL_len h.st _ _
    unfold behL Small; rw [List.length_map]; omega
  have rows : ∀ {α : Type} {n m : Int} [Inhabited α] {F : Int → Int → List α}, (∀ x y, Small (F x y)) → m ≤ 1024 → ∀ r ∈ (tab n fun a => tab m fun y => F a y), Small r ∧ ∀ q ∈ r, Small q := by
    intro α n m _ F hF hm r hr
    obtain ⟨i, i0, i1, rfl⟩ := mem_el hr
    rw [tab_length] at i1
    rw [el_tab i0 (by omega)]
    refine ⟨sm _ hm, fun q hq => ?_⟩
    obtain ⟨j, j0, j1, rfl⟩ := mem_el hq
    rw [tab_length] at j1
    rw [el_tab j0 (by omega)]
    exact hF _ _
  have q3 : (natP f g).Sizes = tab f.Source.Objects fun x => tab g.Source.Objects fun y => ((atL f g x y).length : Int) := rfl
  have q4 : (natP f g).Before = tab (f.Source.From.length : Int) fun a => tab g.Source.Objects fun y => befL f g a y := rfl
  have q5 : (natP f g).Behind = tab (g.Source.From.length : Int) fun b => tab f.Source.Objects fun x => behL f g b x := rfl
  refine ⟨ss, sg, ⟨by rw [q3]; exact sm _ (by omega), fun q hq => ?_⟩, by rw [q4]; exact big _ (by omega), by rw [q4]; exact rows hb (by omega), by rw [q5]; exact big _ (by omega), by rw [q5]; exact rows hh (by omega)⟩
  rw [q3] at hq
  obtain ⟨j, j0, j1, rfl⟩ := mem_el hq
  rw [tab_length] at j1
  rw [el_tab j0 (by omega)]
  exact sm _ (by omega)

def zeroP : XProfunctor := ⟨⟨0, [], [], [], []⟩, ⟨0, [], [], [], []⟩, [], [], []⟩
theorem zeroP_small : SmallP zeroP := ⟨zeroC_small, zeroC_small, ⟨by simp [zeroP], by simp [zeroP]⟩, by simp [zeroP], by simp [zeroP], by simp [zeroP], by simp [zeroP]⟩

theorem HomProfunctor_both {c : XCategory} (sc : SmallC c) : ∃ g w, SmallP g ∧ M.spec_HomProfunctor c = some (g, w) ∧ M.impl_HomProfunctor c = some (g, w) := by
  unfold M.spec_HomProfunctor M.impl_HomProfunctor
  rw [l02Is_eq sc, isCategory_eq sc]
  by_cases h : IsCat c
  · have hS := h.1.shp
    simp only [Option.bind_some, h, decide_true, if_true]
    rw [l06Self_eq sc hS, identity_eq sc hS]
    simp only [Option.bind_some]
    rw [l22Natural_eq sc sc (two_id hS), natural_eq sc sc (two_id hS)]
    exact ⟨_, _, natP_small sc sc (two_id hS), rfl, rfl⟩
  · simp only [Option.bind_some, h, decide_false, Bool.false_eq_true, if_false]
    exact ⟨zeroP, _, zeroP_small, rfl, rfl⟩

theorem law_HomProfunctor {c : XCategory} (h : R.XCategory c) : M.laws_FnExactHomProfunctor c = some true := by
  unfold M.laws_FnExactHomProfunctor
  obtain ⟨v, e, hv⟩ := szCategory_r (n := 1048576) (by decide) (by decide) (fitsC h)
  rw [e]
  simp only [Option.bind_some, decide_eq_true_eq]
  split
  · rfl
  · have hs : SmallC c := by
      rcases hv with ⟨h1, _⟩ | ⟨_, _, h3⟩
      · exact absurd h1 ‹_›
      · exact h3
    obtain ⟨g, w, hg, e1, e2⟩ := HomProfunctor_both hs
    rw [toCategory_eq hs]
    simp only [Option.bind_some]
    rw [e1, e2]
    simp only [Option.bind_some]
    rw [eqProfunctor_refl hg, eqCategory_refl hs]
    obtain ⟨n1, x1, a1, b1, c1, f1, _⟩ := mh_C hs 1 (by omega) (by omega)
    obtain ⟨n2, x2, a2, b2, c2, f2, _⟩ := mh_P hg 1 (by omega) (by omega)
    simp only [Option.bind_some, bne_self_eq_false, Bool.false_eq_true, if_false, if_true, c1, c2, f2]
    rw [if_neg (by omega), if_neg (by omega)]
end Go.Gx
