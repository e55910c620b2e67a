/- Plain laws: objects and arrows of an adjunction, in range. -/
import Derived.Test.YtpfdieaiogfihaaGxQa
import Derived.Test.YtpfdieaiogfihaaGxQo
import Derived.Test.YtpfdieaiogfihaaGxwEM
namespace Go.Gx
open Classical
set_option maxHeartbeats 1000000

theorem l15Ends_eq (a : XAdjunction) (x y : Int) (c : XCategory) (f : Int) :
    M.spec_l15Ends a x y c f = some (if ((0 ≤ x ∧ x < a.Left.Source.Objects) ∧ (0 ≤ y ∧ y < a.Left.Target.Objects)) ∧ (0 ≤ f ∧ f < (c.From.length : Int)) then 0 else 2) := by
  unfold M.spec_l15Ends
  rw [l02Object_eq, l02Object_eq, l02Arrow_eq]
  by_cases h1 : 0 ≤ x ∧ x < a.Left.Source.Objects
  case neg => rw [dF h1, if_neg (fun e => h1 e.1.1)]; rfl
  by_cases h2 : 0 ≤ y ∧ y < a.Left.Target.Objects
  case neg => rw [dT h1, dF h2, if_neg (fun e => h2 e.1.2)]; rfl
  by_cases h3 : 0 ≤ f ∧ f < (c.From.length : Int)
  case neg => rw [dT h1, dT h2, dF h3, if_neg (fun e => h3 e.2)]; rfl
  rw [dT h1, dT h2, dT h3, if_pos ⟨⟨h1, h2⟩, h3⟩]; rfl

theorem objectsCode_eq {a : XAdjunction} (sa : SmallA a) (x y : Int) :
    M.impl_Adjunction_objectsCode a x y = some (if IsAdj a then (if (0 ≤ x ∧ x < a.Left.Source.Objects) ∧ (0 ≤ y ∧ y < a.Left.Target.Objects) then 0 else 2) else 1) := by
  unfold M.impl_Adjunction_objectsCode
  rw [isAdjunction_eq sa]
  by_cases h : IsAdj a
  case neg => rw [dF h, if_neg h]; rfl
  have hc := h.1.f.1.1.shp
  have hd := h.1.f.2.1.1.shp
  have n1 := hc.n0
  have n2 := hc.n8
  have n3 := hd.n0
  have n4 := hd.n8
  rw [dT h, if_pos h]
  simp only [Option.bind_some, if_true]
  rw [inR_eq n1 (by omega), inR_eq n3 (by omega)]
  by_cases h1 : 0 ≤ x ∧ x < a.Left.Source.Objects
  case neg => rw [dF h1, if_neg (fun e => h1 e.1)]; rfl
  by_cases h2 : 0 ≤ y ∧ y < a.Left.Target.Objects
  case neg => rw [dT h1, dF h2, if_neg (fun e => h2 e.2)]; rfl
  rw [dT h1, dT h2, if_pos ⟨h1, h2⟩]; rfl

theorem transposed_eq {a : XAdjunction} {c : XCategory} (hc : Shp c) {x y h u v t : Int} {g : Int → Int → Option Int} {w : Int} (hg : Ar c h u v → g t h = some w) :
    M.impl_Adjunction_transposed a x y h c ⟨u, v⟩ t g = some (if 0 ≤ h ∧ h < (c.From.length : Int) then (if el c.From h = u ∧ el c.To h = v then (w, 0) else (0, 5)) else (0, 2)) := by
  have lt := hc.lto
  have m40 := hc.m40
  unfold M.impl_Adjunction_transposed M.impl_Category_arrows
  simp only [Option.bind_some]
  rw [inR_eq (by omega) (by omega)]
  by_cases h1 : 0 ≤ h ∧ h < (c.From.length : Int)
  case neg => rw [dF h1, if_neg h1]; rfl
  rw [dT h1, if_pos h1]
  simp only [Option.bind_some, if_true]
  rw [ends_eq h1.1 h1.2 (by omega)]
  simp only [Option.bind_some]
  by_cases h2 : el c.From h = u
  case neg => simp [h2]
  by_cases h3 : el c.To h = v
  case neg => simp [h3]
  rw [hg ⟨h1.1, h1.2, h2, h3⟩]
  simp [h2, h3]
end Go.Gx
