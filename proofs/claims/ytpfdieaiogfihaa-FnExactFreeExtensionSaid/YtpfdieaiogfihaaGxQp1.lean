/- Plain laws: pairs of a monad. -/
import Derived.Test.YtpfdieaiogfihaaGxQo
import Derived.Test.YtpfdieaiogfihaaGxQm
import Derived.Test.YtpfdieaiogfihaaGxwPM
namespace Go.Gx
open Classical
set_option maxHeartbeats 1000000

theorem l17Pair_eq {m : XMonad} (hm : SmallM m) (x h : Int) : M.spec_l17Pair m x h = some (if IsMon m then (if (0 ≤ x ∧ x < m.On.Source.Objects) ∧ (0 ≤ h ∧ h < (m.On.Source.From.length : Int)) then 0 else 2) else 1) := by
  unfold M.spec_l17Pair
  rw [l16Is_eq hm, l02Object_eq, l02Arrow_eq]
  by_cases h1 : IsMon m
  case neg => rw [dF h1, if_neg h1]; rfl
  by_cases h2 : 0 ≤ x ∧ x < m.On.Source.Objects
  case neg => rw [dT h1, dF h2, if_pos h1, if_neg (fun e => h2 e.1)]; rfl
  by_cases h3 : 0 ≤ h ∧ h < (m.On.Source.From.length : Int)
  case neg => rw [dT h1, dT h2, dF h3, if_pos h1, if_neg (fun e => h3 e.2)]; rfl
  rw [dT h1, dT h2, dT h3, if_pos h1, if_pos ⟨h2, h3⟩]; rfl

theorem pairCode_eq {m : XMonad} (hm : SmallM m) {xs fs : List Int} (sx : Small xs) (sf : Small fs) :
    M.impl_pairCode m xs fs = some (if IsMon m then (if In m.On.Source.Objects xs ∧ In (m.On.Source.From.length : Int) fs then 0 else 2) else 1) := by
  unfold M.impl_pairCode M.impl_Category_arrows
  rw [isMonad_eq hm]
  by_cases h1 : IsMon m
  case neg => rw [dF h1, if_neg h1]; rfl
  have hc := h1.1.f.1.1.shp
  have n0 := hc.n0
  have n8 := hc.n8
  have m40 := hc.m40
  rw [dT h1, if_pos h1]
  simp only [Option.bind_some, if_true]
  rw [within_eq sx (by omega) (by omega), within_eq sf (by omega) (by omega)]
  by_cases h2 : In m.On.Source.Objects xs
  case neg => rw [dF h2, if_neg (fun e => h2 e.1)]; rfl
  by_cases h3 : In (m.On.Source.From.length : Int) fs
  case neg => rw [dT h2, dF h3, if_neg (fun e => h3 e.2)]; rfl
  rw [dT h2, dT h3, if_pos ⟨h2, h3⟩]; rfl

end Go.Gx
