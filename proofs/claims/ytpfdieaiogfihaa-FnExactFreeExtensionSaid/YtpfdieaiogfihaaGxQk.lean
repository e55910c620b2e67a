/- Plain laws: pairs and algebras of a monad. -/
import Derived.Test.YtpfdieaiogfihaaGxQp1
import Derived.Test.YtpfdieaiogfihaaGxwQM
namespace Go.Gx
open Classical
set_option maxHeartbeats 1000000

/-- h is an algebra on x. -/
def Alg (m : XMonad) (x h : Int) : Prop :=
  el m.On.Source.From h = el m.On.Objects x ∧ el m.On.Source.To h = x ∧ el m.On.Source.Identity x = cmp m.On.Source (el m.Unit x) h ∧
  cmp m.On.Source (el m.On.Arrows h) h = cmp m.On.Source (el m.Join x) h

theorem l17Is_eq {m : XMonad} (hm : Mon0 m) {x h : Int} (x0 : 0 ≤ x) (x1 : x < m.On.Source.Objects) (f0 : 0 ≤ h) (f1 : h < (m.On.Source.From.length : Int)) : M.spec_l17Is m x h = some (decide (Alg m x h)) := by
  apply Ret.ask
  have hc := hm.f.1.1.shp
  have lt := hc.lto
  have a := hm.at x0 x1
  unfold M.spec_l17Is
  simp only [bne_iff_ne, ne_eq]
  refine Ret.idx f0 f1 (Ret.idx x0 a.xo (Ret.ite (fun e => Ret.some ⟨(fun h => by cases h), fun q => absurd q.1 e⟩) (fun e1 => ?_)))
  refine Ret.idx f0 (by omega) (Ret.ite (fun e => Ret.some ⟨(fun h => by cases h), fun q => absurd q.2.1 e⟩) (fun e2 => ?_))
  have ha : Ar m.On.Source h (el m.On.Objects x) x := ⟨f0, f1, Decidable.not_not.1 e1, Decidable.not_not.1 e2⟩
  refine Ret.idx x0 a.xu (Ret.call (a.au.th hc ha) (Ret.call ((a.au.comp hc ha).un hc) (Ret.ite (fun e3 => ?_) (fun e3 => Ret.some ⟨(fun h => by cases h), fun q => absurd (decide_eq_true q.2.2.1) e3⟩))))
  refine Ret.idx f0 (hm.xa ha) (Ret.call ((hm.map ha).th hc ha) (Ret.idx x0 a.xj (Ret.call (a.aj.th hc ha) (Ret.some ?_))))
  rw [beq_iff_eq]
  exact ⟨fun e => ⟨ha.s, ha.t, of_decide_eq_true e3, e⟩, fun q => q.2.2.2⟩

theorem isAlgebra_eq {m : XMonad} (hm : Mon0 m) {x h : Int} (x0 : 0 ≤ x) (x1 : x < m.On.Source.Objects) (f0 : 0 ≤ h) (f1 : h < (m.On.Source.From.length : Int)) : M.impl_Monad_isAlgebra m x h = some (decide (Alg m x h)) := by
  apply Ret.ask
  have hc := hm.f.1.1.shp
  have lt := hc.lto
  have li := hc.lid
  have a := hm.at x0 x1
  unfold M.impl_Monad_isAlgebra
  refine Ret.call (ends_eq f0 f1 (by omega)) (Ret.call (monObject_eq x0 a.xo) ?_)
  dsimp only
  refine Ret.ite (fun e => ?_) (fun e => Ret.some ⟨(fun h => by cases h), fun q => absurd (by simp [q.1, q.2.1]) e⟩)
  have e12 : el m.On.Source.From h = el m.On.Objects x ∧ el m.On.Source.To h = x := by simpa using e
  have ha : Ar m.On.Source h (el m.On.Objects x) x := ⟨f0, f1, e12.1, e12.2⟩
  refine Ret.idx x0 a.xu (Ret.call (a.au.ti hc ha) (Ret.idx x0 (by omega) (Ret.ite (fun e3 => ?_) (fun e3 => Ret.some ⟨(fun h => by cases h), fun q => absurd (beq_iff_eq.2 q.2.2.1.symm) e3⟩))))
  refine Ret.call (monArrow_eq f0 (hm.xa ha)) (Ret.call ((hm.map ha).ti hc ha) (Ret.idx x0 a.xj (Ret.call (a.aj.ti hc ha) (Ret.some ?_))))
  rw [beq_iff_eq]
  exact ⟨fun e => ⟨ha.s, ha.t, (beq_iff_eq.1 e3).symm, e⟩, fun q => q.2.2.2⟩
end Go.Gx
