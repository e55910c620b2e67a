/- The law of IsDistributiveLaw. -/
import Derived.Test.YtpfdieaiogfihaaGxQ2
import Derived.Test.YtpfdieaiogfihaaGxw50M
namespace Go.Gx
open Classical
set_option maxHeartbeats 1000000

/-- The four laws at x. -/
def DistLaw (s t : XMonad) (l : List Int) (x : Int) : Prop :=
  cmp s.On.Source (el s.On.Arrows (el t.Unit x)) (el l x) = el t.Unit (el s.On.Objects x) ∧
  cmp s.On.Source (el s.Unit (el t.On.Objects x)) (el l x) = el t.On.Arrows (el s.Unit x) ∧
  cmp s.On.Source (el s.On.Arrows (el t.Join x)) (el l x) = cmp s.On.Source (cmp s.On.Source (el l (el t.On.Objects x)) (el t.On.Arrows (el l x))) (el t.Join (el s.On.Objects x)) ∧
  cmp s.On.Source (el s.Join (el t.On.Objects x)) (el l x) = cmp s.On.Source (cmp s.On.Source (el s.On.Arrows (el l x)) (el l (el s.On.Objects x))) (el t.On.Arrows (el s.Join x))
def IsDist (s t : XMonad) (l : List Int) : Prop := IsNat ⟨thenF t.On s.On, thenF s.On t.On, l⟩ ∧ ∀ x, 0 ≤ x → x < s.On.Source.Objects → DistLaw s t l x

section
variable {s t : XMonad} (h : TwoM s t)
include h
theorem TwoM.ts : t.On.Target = s.On.Source := by rw [← h.fn.e, h.e]
theorem TwoM.st : s.On.Target = t.On.Source := by rw [← h.fm.e, h.e]
theorem TwoM.par : Par (thenF t.On s.On) (thenF s.On t.On) := ⟨h.e.symm, h.et⟩
theorem law_at {l : List Int} (hl : IsNat ⟨thenF t.On s.On, thenF s.On t.On, l⟩) {x : Int} (x0 : 0 ≤ x) (x1 : x < s.On.Source.Objects) :
    Ar s.On.Source (el l x) (el s.On.Objects (el t.On.Objects x)) (el t.On.Objects (el s.On.Objects x)) ∧ x < (l.length : Int) := by
  have e := h.fm.e
  have lo := h.fm.f.2.2.lo
  have lo' := h.fn.f.2.2.lo
  rw [← h.e] at lo'
  obtain ⟨a, b⟩ := hl.at (x := x) x0 (by show x < t.On.Source.Objects; rw [← h.e]; exact x1)
  have a : Ar s.On.Target (el l x) (el (thenL t.On.Objects s.On.Objects) x) (el (thenL s.On.Objects t.On.Objects) x) := a
  rw [← e, el_thenL x0 (by omega), el_thenL x0 (by omega)] at a
  exact ⟨a, b⟩

theorem l16Law_eq {l : List Int} (hs : SmallM s) (ht : SmallM t) (sl : Small l) : M.spec_l16Law s t l = some (decide (IsDist s t l)) := by
  apply Ret.ask
  have hc := h.fm.f.1.1.shp
  have n0 := hc.n0
  have n8 := hc.n8
  unfold M.spec_l16Law
  rw [l06Then_eq ht.s1 hs.s1 (meet_of h.fn.f h.fm.f h.ts), l06Then_eq hs.s1 ht.s1 (meet_of h.fm.f h.fn.f h.st)]
  simp only [Option.bind_some]
  refine Ret.call (l15Natural_eq sl (thenF_fun h.fn.f h.fm.f h.ts) (thenF_fun h.fm.f h.fn.f h.st) h.par) (Ret.ite (fun h1 => ?_) (fun h1 => Ret.some ⟨(fun h => by cases h), fun e => absurd (decide_eq_true e.1) h1⟩))
  have hl := of_decide_eq_true h1
  simp only [bne_iff_ne, ne_eq, decide_eq_true_eq]
  refine Ret.all s.On.Source.Objects (fun x => DistLaw s t l x) n0 (by omega) ?_ ?_
  · intro x next x0 x1 hq hn1
    have a := h.fm.at x0 x1
    obtain ⟨nu, nul, njl, nol, nj, ny0, ny1⟩ := h.nu x0 x1
    obtain ⟨nuP, nulP, njlP, nolP, njP, _, _⟩ := h.nu a.y.1 a.y.2
    have aQ := h.fm.at ny0 ny1
    obtain ⟨lx, lxl⟩ := law_at h hl x0 x1
    obtain ⟨lq, lql⟩ := law_at h hl ny0 ny1
    obtain ⟨lp, lpl⟩ := law_at h hl a.y.1 a.y.2
    obtain ⟨Tsu, Tsul⟩ := h.nm a.au
    obtain ⟨Tsj, Tsjl⟩ := h.nm a.aj
    obtain ⟨Tlx, Tlxl⟩ := h.nm lx
    rw [if_pos x1]
    refine Ret.idx x0 a.xo (Ret.idx x0 nol (Ret.idx x0 nul (Ret.idx nu.p (h.fm.xa nu) (Ret.idx x0 lxl (Ret.call ((h.fm.map nu).th hc lx) (Ret.idx a.y.1 nulP (Ret.ite (fun e1 => Ret.some ?_) (fun e1 => ?_))))))))
    · exact ⟨(fun h => by cases h), fun e => absurd (e.2 x x0 x1).1 e1⟩
    refine Ret.idx ny0 aQ.xu (Ret.call (aQ.au.th hc lx) (Ret.idx x0 a.xu (Ret.idx a.u.1 Tsul (Ret.ite (fun e2 => Ret.some ?_) (fun e2 => ?_)))))
    · exact ⟨(fun h => by cases h), fun e => absurd (e.2 x x0 x1).2.1 e2⟩
    refine Ret.idx ny0 lql (Ret.idx lx.p Tlxl (Ret.call (lq.th hc Tlx) (Ret.idx a.y.1 njlP (Ret.call ((lq.comp hc Tlx).th hc njP) (Ret.idx x0 njl (Ret.idx nj.p (h.fm.xa nj) (Ret.call ((h.fm.map nj).th hc lx) (Ret.ite (fun e3 => Ret.some ?_) (fun e3 => ?_)))))))))
    · exact ⟨(fun h => by cases h), fun e => absurd (e.2 x x0 x1).2.2.1 e3⟩
    refine Ret.idx lx.p (h.fm.xa lx) (Ret.idx a.y.1 lpl (Ret.call ((h.fm.map lx).th hc lp) (Ret.idx x0 a.xj (Ret.idx a.j.1 Tsjl (Ret.call (((h.fm.map lx).comp hc lp).th hc Tsj) (Ret.idx ny0 aQ.xj (Ret.call (aQ.aj.th hc lx) (Ret.ite (fun e4 => Ret.some ?_) (fun e4 => ?_)))))))))
    · exact ⟨(fun h => by cases h), fun e => absurd (e.2 x x0 x1).2.2.2 e4⟩
    exact hn1 ⟨Decidable.not_not.1 e1, Decidable.not_not.1 e2, Decidable.not_not.1 e3, Decidable.not_not.1 e4⟩
  · intro next hq
    rw [if_neg (by omega)]
    exact Ret.some ⟨fun _ => ⟨hl, hq⟩, fun _ => rfl⟩

theorem isLaw_eq {l : List Int} (hs : SmallM s) (ht : SmallM t) (sl : Small l) : M.impl_isLaw s t l = some (decide (IsDist s t l)) := by
  apply Ret.ask
  have hc := h.fm.f.1.1.shp
  have n0 := hc.n0
  have n8 := hc.n8
  unfold M.impl_isLaw
  rw [Functor_then_eq ht.s1 hs.s1 (meet_of h.fn.f h.fm.f h.ts), Functor_then_eq hs.s1 ht.s1 (meet_of h.fm.f h.fn.f h.st)]
  simp only [Option.bind_some]
  have st : SmallT ⟨thenF t.On s.On, thenF s.On t.On, l⟩ := ⟨thenF_small ht.s1 hs.s1, thenF_small hs.s1 ht.s1, sl⟩
  refine Ret.call (isNatural_eq st) (Ret.ite (fun h1 => ?_) (fun h1 => Ret.some ⟨(fun h => by cases h), fun e => absurd (decide_eq_true e.1) h1⟩))
  have hl := of_decide_eq_true h1
  have ll : (l.length : Int) = t.On.Source.Objects := hl.1.2.2.2.1
  rw [← h.e] at ll
  simp only [bne_iff_ne, ne_eq, decide_eq_true_eq]
  refine Ret.all (l.length : Int) (fun x => DistLaw s t l x) (by omega) (by omega) ?_ ?_
  · intro x next x0 x1' hq hn1
    have x1 : x < s.On.Source.Objects := by omega
    have a := h.fm.at x0 x1
    obtain ⟨nu, nul, njl, nol, nj, ny0, ny1⟩ := h.nu x0 x1
    obtain ⟨nuP, nulP, njlP, nolP, njP, _, _⟩ := h.nu a.y.1 a.y.2
    have aQ := h.fm.at ny0 ny1
    obtain ⟨lx, lxl⟩ := law_at h hl x0 x1
    obtain ⟨lq, lql⟩ := law_at h hl ny0 ny1
    obtain ⟨lp, lpl⟩ := law_at h hl a.y.1 a.y.2
    obtain ⟨Tsu, Tsul⟩ := h.nm a.au
    obtain ⟨Tsj, Tsjl⟩ := h.nm a.aj
    obtain ⟨Tlx, Tlxl⟩ := h.nm lx
    rw [if_pos x1']
    refine Ret.idx x0 lxl (Ret.call (monObject_eq x0 a.xo) (Ret.call (monObject_eq x0 nol) (Ret.idx x0 nul (Ret.call (monArrow_eq nu.p (h.fm.xa nu)) (Ret.call ((h.fm.map nu).ti hc lx) (Ret.idx a.y.1 nulP (Ret.ite (fun e1 => Ret.some ?_) (fun e1 => ?_))))))))
    · exact ⟨(fun h => by cases h), fun e => absurd (e.2 x x0 x1).1 e1⟩
    refine Ret.idx ny0 aQ.xu (Ret.call (aQ.au.ti hc lx) (Ret.idx x0 a.xu (Ret.call (monArrow_eq a.u.1 Tsul) (Ret.ite (fun e2 => Ret.some ?_) (fun e2 => ?_)))))
    · exact ⟨(fun h => by cases h), fun e => absurd (e.2 x x0 x1).2.1 e2⟩
    refine Ret.idx x0 njl (Ret.call (monArrow_eq nj.p (h.fm.xa nj)) (Ret.call ((h.fm.map nj).ti hc lx) (Ret.idx ny0 lql (Ret.call (monArrow_eq lx.p Tlxl) (Ret.call (lq.ti hc Tlx) (Ret.idx a.y.1 njlP (Ret.call ((lq.comp hc Tlx).ti hc njP) (Ret.ite (fun e3 => Ret.some ?_) (fun e3 => ?_)))))))))
    · exact ⟨(fun h => by cases h), fun e => absurd (e.2 x x0 x1).2.2.1 e3⟩
    refine Ret.idx ny0 aQ.xj (Ret.call (aQ.aj.ti hc lx) (Ret.call (monArrow_eq lx.p (h.fm.xa lx)) (Ret.idx a.y.1 lpl (Ret.call ((h.fm.map lx).ti hc lp) (Ret.idx x0 a.xj (Ret.call (monArrow_eq a.j.1 Tsjl) (Ret.call (((h.fm.map lx).comp hc lp).ti hc Tsj) (Ret.ite (fun e4 => Ret.some ?_) (fun e4 => ?_)))))))))
    · exact ⟨(fun h => by cases h), fun e => absurd (e.2 x x0 x1).2.2.2 e4⟩
    exact hn1 ⟨Decidable.not_not.1 e1, Decidable.not_not.1 e2, Decidable.not_not.1 e3, Decidable.not_not.1 e4⟩
  · intro next hq
    rw [if_neg (by omega)]
    exact Ret.some ⟨fun _ => ⟨hl, fun x x0 x1 => hq x x0 (by omega)⟩, fun _ => rfl⟩
end

theorem IsDistributiveLaw_both {m n : XMonad} {p : List Int} (hm : SmallM m) (hn : SmallM n) (sp : Small p) : ∃ w w', M.spec_IsDistributiveLaw m n p = some (w, w') ∧ M.impl_IsDistributiveLaw m n p = some (w, w') := by
  unfold M.spec_IsDistributiveLaw M.impl_IsDistributiveLaw
  rw [l16Two_eq hm hn, monadsCode_eq hm hn]
  by_cases h1 : IsMon m ∧ IsMon n
  case neg =>
    rw [if_neg h1]
    exact ⟨_, _, rfl, rfl⟩
  by_cases h2 : m.On.Source = n.On.Source
  case neg =>
    rw [if_pos h1, if_neg h2]
    exact ⟨_, _, rfl, rfl⟩
  have h : TwoM m n := ⟨h1.1.1, h1.2.1, h2⟩
  rw [if_pos h1, if_pos h2, l16Law_eq h hm hn sp, isLaw_eq h hm hn sp]
  exact ⟨_, _, rfl, rfl⟩

theorem law_IsDistributiveLaw {a0 : XMonad} {a1 : XMonad} {a2 : List Int} (h0 : R.XMonad a0) (h1 : R.XMonad a1) (_ : AllL I64 a2) : M.laws_FnExactIsDistributiveLaw a0 a1 a2 = some true := by
  unfold M.laws_FnExactIsDistributiveLaw
  by_cases z2 : (a2.length : Int) > 1048576
  · rw [if_pos (decide_eq_true z2)]
  · rw [if_neg (fun h => absurd (of_decide_eq_true h) z2)]
    have s2 : Small a2 := by unfold Small; omega
    obtain ⟨v0, e0, hv0⟩ := szMonad_r (n := 1048576) (by decide) (by decide) (fitsM h0)
    rw [e0, Option.bind_some]
    rcases hv0 with ⟨z0, _⟩ | ⟨l0, u0, s0⟩
    · rw [if_pos (decide_eq_true z0)]
    · rw [if_neg (fun h => absurd (of_decide_eq_true h) (by omega))]
      obtain ⟨v1, e1, hv1⟩ := szMonad_r (n := v0) l0 (by omega) (fitsM h1)
      rw [e1, Option.bind_some]
      rcases hv1 with ⟨z1, _⟩ | ⟨l1, u1, s1⟩
      · rw [if_pos (decide_eq_true z1)]
      · rw [if_neg (fun h => absurd (of_decide_eq_true h) (by omega))]
        rw [toMonad_eq s0, Option.bind_some, toMonad_eq s1, Option.bind_some, toInt64S_eq s2, Option.bind_some]
        obtain ⟨w, w', es, ei⟩ := IsDistributiveLaw_both s0 s1 s2
        have hb0 : ((w == w) == false) = false := by cases w <;> rfl
        rw [es, ei]
        simp only [Option.bind_some]
        rw [eqMonad_refl s0, eqMonad_refl s1, eqInt64S_refl s2]
        simp only [Option.bind_some, bne_self_eq_false, Bool.false_eq_true, if_false, if_true, hb0]

end Go.Gx
