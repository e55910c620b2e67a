/- Plain laws: two monads on one category. -/
import Derived.Test.YtpfdieaiogfihaaGxQo
import Derived.Test.YtpfdieaiogfihaaGxQm
import Derived.Test.YtpfdieaiogfihaaGxwRM
namespace Go.Gx
open Classical
set_option maxHeartbeats 1000000

theorem l16Two_eq {m n : XMonad} (hm : SmallM m) (hn : SmallM n) : M.spec_l16Two m n = some (if IsMon m ∧ IsMon n then (if m.On.Source = n.On.Source then 0 else 5) else 1) := by
  unfold M.spec_l16Two
  rw [l16Is_eq hm, l16Is_eq hn, l02Same_eq hm.s1.s1 hn.s1.s1]
  by_cases h1 : IsMon m <;> by_cases h2 : IsMon n <;> by_cases h3 : m.On.Source = n.On.Source <;> simp [h1, h2, h3]
theorem monadsCode_eq {m n : XMonad} (hm : SmallM m) (hn : SmallM n) : M.impl_monadsCode m n = some (if IsMon m ∧ IsMon n then (if m.On.Source = n.On.Source then 0 else 5) else 1) := by
  unfold M.impl_monadsCode
  rw [isMonad_eq hm, isMonad_eq hn, sameCategory_eq hm.s1.s1 hn.s1.s1]
  by_cases h1 : IsMon m <;> by_cases h2 : IsMon n <;> by_cases h3 : m.On.Source = n.On.Source <;> simp [h1, h2, h3]

/-- Two monads on one category. -/
structure TwoM (m n : XMonad) : Prop where
  fm : Mon0 m
  fn : Mon0 n
  e : m.On.Source = n.On.Source

section
variable {m n : XMonad} (h : TwoM m n)
include h
theorem TwoM.et : m.On.Target = n.On.Target := by rw [← h.fm.e, ← h.fn.e, h.e]
theorem TwoM.nu {x : Int} (x0 : 0 ≤ x) (x1 : x < m.On.Source.Objects) : Ar m.On.Source (el n.Unit x) x (el n.On.Objects x) ∧ x < (n.Unit.length : Int) ∧ x < (n.Join.length : Int) ∧ x < (n.On.Objects.length : Int) ∧
    Ar m.On.Source (el n.Join x) (el n.On.Objects (el n.On.Objects x)) (el n.On.Objects x) ∧ 0 ≤ el n.On.Objects x ∧ el n.On.Objects x < m.On.Source.Objects := by
  have e := h.e
  have a := h.fn.at x0 (by rw [← e]; exact x1)
  have u := a.au
  have j := a.aj
  have y := a.y
  rw [← e] at u j y
  exact ⟨u, a.xu, a.xj, a.xo, j, y.1, y.2⟩
theorem TwoM.nm {f x y : Int} (a : Ar m.On.Source f x y) : Ar m.On.Source (el n.On.Arrows f) (el n.On.Objects x) (el n.On.Objects y) ∧ f < (n.On.Arrows.length : Int) := by
  have e := h.e
  have a' : Ar n.On.Source f x y := by rw [← e]; exact a
  have b := h.fn.map a'
  rw [← e] at b
  exact ⟨b, h.fn.xa a'⟩
end

end Go.Gx
