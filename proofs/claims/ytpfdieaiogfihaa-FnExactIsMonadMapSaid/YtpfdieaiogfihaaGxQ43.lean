/- The law of IsMonadMap. -/
import Derived.Test.YtpfdieaiogfihaaGxQ2
import Derived.Test.YtpfdieaiogfihaaGxw43M
namespace Go.Gx
open Classical
set_option maxHeartbeats 1000000

/-- The law of a map of monads at x. -/
def MapLaw (m n : XMonad) (p : List Int) (x : Int) : Prop :=
  cmp m.On.Source (el m.Unit x) (el p x) = el n.Unit x ∧
  cmp m.On.Source (el m.Join x) (el p x) = cmp m.On.Source (cmp m.On.Source (el p (el m.On.Objects x)) (el n.On.Arrows (el p x))) (el n.Join x)
def IsMap (m n : XMonad) (p : List Int) : Prop := IsNat ⟨m.On, n.On, p⟩ ∧ ∀ x, 0 ≤ x → x < m.On.Source.Objects → MapLaw m n p x

theorem part_at {m n : XMonad} (h : TwoM m n) {p : List Int} (hp : IsNat ⟨m.On, n.On, p⟩) {x : Int} (x0 : 0 ≤ x) (x1 : x < m.On.Source.Objects) :
    Ar m.On.Source (el p x) (el m.On.Objects x) (el n.On.Objects x) ∧ x < (p.length : Int) := by
  have e := h.fm.e
  obtain ⟨a, b⟩ := hp.at (x := x) x0 x1
  dsimp only at a b
  rw [← e] at a
  exact ⟨a, b⟩

theorem l16Map_eq {m n : XMonad} (h : TwoM m n) {p : List Int} (sp : Small p) : M.spec_l16Map m n p = some (decide (IsMap m n p)) := by
  apply Ret.ask
  have hc := h.fm.f.1.1.shp
  have n0 := hc.n0
  have n8 := hc.n8
  unfold M.spec_l16Map
  refine Ret.call (l15Natural_eq sp h.fm.f h.fn.f ⟨h.e, h.et⟩) (Ret.ite (fun h1 => ?_) (fun h1 => Ret.some ⟨(fun h => by cases h), fun e => absurd (decide_eq_true e.1) h1⟩))
  have hp := of_decide_eq_true h1
  simp only [bne_iff_ne, ne_eq, decide_eq_true_eq]
  refine Ret.all m.On.Source.Objects (fun x => MapLaw m n p x) n0 (by omega) ?_ ?_
  · intro x next x0 x1 hq hn1
    have a := h.fm.at x0 x1
    obtain ⟨px, xl⟩ := part_at h hp x0 x1
    obtain ⟨py, yl⟩ := part_at h hp a.y.1 a.y.2
    obtain ⟨nu, nul, njl, nol, nj, ny0, ny1⟩ := h.nu x0 x1
    obtain ⟨np, npl⟩ := h.nm px
    rw [if_pos x1]
    refine Ret.idx x0 a.xu (Ret.idx x0 xl (Ret.call (a.au.th hc px) (Ret.idx x0 nul (Ret.ite (fun e1 => Ret.some ?_) (fun e1 => ?_)))))
    · exact ⟨(fun h => by cases h), fun e => absurd (e.2 x x0 x1).1 e1⟩
    · refine Ret.idx x0 a.xo (Ret.idx a.y.1 yl (Ret.idx px.p npl (Ret.call (py.th hc np) (Ret.idx x0 a.xj (Ret.call (a.aj.th hc px) (Ret.idx x0 njl (Ret.call ((py.comp hc np).th hc nj) (Ret.ite (fun e2 => Ret.some ?_) (fun e2 => ?_)))))))))
      · exact ⟨(fun h => by cases h), fun e => absurd (e.2 x x0 x1).2 e2⟩
      · exact hn1 ⟨Decidable.not_not.1 e1, Decidable.not_not.1 e2⟩
  · intro next hq
    rw [if_neg (by omega)]
    exact Ret.some ⟨fun _ => ⟨hp, hq⟩, fun _ => rfl⟩

theorem isMonadMap_eq {m n : XMonad} (sm : SmallM m) (sn : SmallM n) (h : TwoM m n) {p : List Int} (sp : Small p) : M.impl_isMonadMap m n p = some (decide (IsMap m n p)) := by
  apply Ret.ask
  have hc := h.fm.f.1.1.shp
  have n0 := hc.n0
  have n8 := hc.n8
  unfold M.impl_isMonadMap
  have st : SmallT ⟨m.On, n.On, p⟩ := ⟨sm.s1, sn.s1, sp⟩
  refine Ret.call (isNatural_eq st) (Ret.ite (fun h1 => ?_) (fun h1 => Ret.some ⟨(fun h => by cases h), fun e => absurd (decide_eq_true e.1) h1⟩))
  have hp := of_decide_eq_true h1
  have lp : (p.length : Int) = m.On.Source.Objects := hp.1.2.2.2.1
  simp only [bne_iff_ne, ne_eq, decide_eq_true_eq]
  refine Ret.all (p.length : Int) (fun x => MapLaw m n p x) (by omega) (by omega) ?_ ?_
  · intro x next x0 x1' hq hn1
    have x1 : x < m.On.Source.Objects := by omega
    have a := h.fm.at x0 x1
    obtain ⟨px, xl⟩ := part_at h hp x0 x1
    obtain ⟨py, yl⟩ := part_at h hp a.y.1 a.y.2
    obtain ⟨nu, nul, njl, nol, nj, ny0, ny1⟩ := h.nu x0 x1
    obtain ⟨np, npl⟩ := h.nm px
    rw [if_pos x1']
    refine Ret.idx x0 xl (Ret.idx x0 a.xu (Ret.call (a.au.ti hc px) (Ret.idx x0 nul (Ret.ite (fun e1 => Ret.some ?_) (fun e1 => ?_)))))
    · exact ⟨(fun h => by cases h), fun e => absurd (e.2 x x0 x1).1 e1⟩
    · refine Ret.idx x0 a.xj (Ret.call (a.aj.ti hc px) (Ret.call (monObject_eq x0 a.xo) (Ret.idx a.y.1 yl (Ret.call (monArrow_eq px.p npl) (Ret.call (py.ti hc np) (Ret.idx x0 njl (Ret.call ((py.comp hc np).ti hc nj) (Ret.ite (fun e2 => Ret.some ?_) (fun e2 => ?_)))))))))
      · exact ⟨(fun h => by cases h), fun e => absurd (e.2 x x0 x1).2 e2⟩
      · exact hn1 ⟨Decidable.not_not.1 e1, Decidable.not_not.1 e2⟩
  · intro next hq
    rw [if_neg (by omega)]
    exact Ret.some ⟨fun _ => ⟨hp, fun x x0 x1 => hq x x0 (by omega)⟩, fun _ => rfl⟩
theorem IsMonadMap_both {m n : XMonad} {p : List Int} (hm : SmallM m) (hn : SmallM n) (sp : Small p) : ∃ w w', M.spec_IsMonadMap m n p = some (w, w') ∧ M.impl_IsMonadMap m n p = some (w, w') := by
  unfold M.spec_IsMonadMap M.impl_IsMonadMap
  rw [l16Two_eq hm hn, monadsCode_eq hm hn]
  by_cases h1 : IsMon m ∧ IsMon n
  case neg =>
    rw [if_neg h1]
    exact ⟨_, _, rfl, rfl⟩
  by_cases h2 : m.On.Source = n.On.Source
  case neg =>
    rw [if_pos h1, if_neg h2]
    exact ⟨_, _, rfl, rfl⟩
  have h : TwoM m n := ⟨h1.1.1, h1.2.1, h2⟩
  rw [if_pos h1, if_pos h2, l16Map_eq h sp, isMonadMap_eq hm hn h sp]
  exact ⟨_, _, rfl, rfl⟩

theorem law_IsMonadMap {a0 : XMonad} {a1 : XMonad} {a2 : List Int} (h0 : R.XMonad a0) (h1 : R.XMonad a1) (_ : AllL I64 a2) : M.laws_FnExactIsMonadMap a0 a1 a2 = some true := by
  unfold M.laws_FnExactIsMonadMap
  by_cases z2 : (a2.length : Int) > 1048576
  · rw [if_pos (decide_eq_true z2)]
  · rw [if_neg (fun h => absurd (of_decide_eq_true h) z2)]
    have s2 : Small a2 := by unfold Small; omega
    obtain ⟨v0, e0, hv0⟩ := szMonad_r (n := 1048576) (by decide) (by decide) (fitsM h0)
    rw [e0, Option.bind_some]
    rcases hv0 with ⟨z0, _⟩ | ⟨l0, u0, s0⟩
    · rw [if_pos (decide_eq_true z0)]
    · rw [if_neg (fun h => absurd (of_decide_eq_true h) (by omega))]
      obtain ⟨v1, e1, hv1⟩ := szMonad_r (n := v0) l0 (by omega) (fitsM h1)
      rw [e1, Option.bind_some]
      rcases hv1 with ⟨z1, _⟩ | ⟨l1, u1, s1⟩
      · rw [if_pos (decide_eq_true z1)]
      · rw [if_neg (fun h => absurd (of_decide_eq_true h) (by omega))]
        rw [toMonad_eq s0, Option.bind_some, toMonad_eq s1, Option.bind_some, toInt64S_eq s2, Option.bind_some]
        obtain ⟨w, w', es, ei⟩ := IsMonadMap_both s0 s1 s2
        have hb0 : ((w == w) == false) = false := by cases w <;> rfl
        rw [es, ei]
        simp only [Option.bind_some]
        rw [eqMonad_refl s0, eqMonad_refl s1, eqInt64S_refl s2]
        simp only [Option.bind_some, bne_self_eq_false, Bool.false_eq_true, if_false, if_true, hb0]

end Go.Gx
