/- What a loop keeps, said of a model that has answered. -/
import Derived.Test.YtggojehmbpbefaaGxX
namespace Go.Gx
theorem iter_pres {σ ρ : Type} {step : σ → (σ → Option ρ) → Option ρ} (I : σ → Prop) (Q : ρ → Prop) (h : ∀ s next r, I s → (∀ s', I s' → next s' = some r → Q r) → step s next = some r → Q r) :
    ∀ (n : Nat) (s : σ) (r : ρ), I s → iter step n s = some r → Q r
  | 0, _, _, _, h1 => by cases h1
  | n + 1, s, r, hs, h1 => h s (iter step n) r hs (fun s' hs' h2 => iter_pres I Q h n s' r hs' h2) h1
end Go.Gx
