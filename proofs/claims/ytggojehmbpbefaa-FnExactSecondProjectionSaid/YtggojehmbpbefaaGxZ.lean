/- Plain laws: counted loops. -/
import Derived.Test.YtggojehmbpbefaaGxX
namespace Go.Gx

theorem wrap_in {x : Int} (h0 : -9223372036854775808 ≤ x) (h1 : x < 9223372036854775808) : IntKind.i64.wrap x = x := IntWalk.i64_in x ⟨h0, by omega⟩

/-- From i on, m rounds. -/
def forF {σ ρ : Type} (body : Nat → σ → (σ → Option ρ) → Option ρ) (k : σ → Option ρ) : Nat → Nat → σ → Option ρ
  | 0, _, s => k s
  | m + 1, i, s => body i s (forF body k m (i + 1))

theorem iter_succ {σ ρ : Type} (body : σ → (σ → Option ρ) → Option ρ) (n : Nat) (s : σ) : iter body (n + 1) s = body s (iter body n) := rfl

/-- A loop that counts: 'enc i s' is its state at round i. -/
theorem iter_for {σ τ ρ : Type} {step : τ → (τ → Option ρ) → Option ρ} {enc : Nat → σ → τ} {body : Nat → σ → (σ → Option ρ) → Option ρ} {k : σ → Option ρ} {n : Nat}
    (hgo : ∀ i s next, i < n → step (enc i s) next = body i s fun s' => next (enc (i + 1) s')) (hend : ∀ s next, step (enc n s) next = k s) :
    ∀ (m i : Nat) (s : σ) (fu : Nat), i + m = n → m < fu → iter step fu (enc i s) = forF body k m i s
  | 0, i, s, 0, _, h => by omega
  | 0, i, s, fu + 1, hn, _ => by
    obtain rfl : i = n := by omega
    rw [iter_succ, hend]; rfl
  | m + 1, i, s, 0, _, h => by omega
  | m + 1, i, s, fu + 1, hn, h => by
    rw [iter_succ, hgo i s _ (by omega)]
    show _ = body i s (forF body k m (i + 1))
    congr 1
    funext s'
    exact iter_for hgo hend m (i + 1) s' fu (by omega) (by omega)
end Go.Gx
