/- Plain laws: pairs of lists; products of functors. -/
import Derived.Test.YtjmjhhhglbeacaaGxQf
import Derived.Test.YtjmjhhhglbeacaaGxPq
namespace Go.Gx
open Classical
set_option maxHeartbeats 1000000

abbrev pairF (a b : List Int) (n : Int) (i j : Int) : Int := el a i * n + el b j
def pairL (a b : List Int) (n : Int) : List Int := tab2 (a.length : Int) (b.length : Int) (pairF a b n)
/-- Codes of pairs are small numbers. -/
structure PairOk (a b : List Int) (n A : Int) : Prop where
  hA : A ≤ 40
  hn : n ≤ 40
  la : (a.length : Int) ≤ 40
  lb : (b.length : Int) ≤ 40
  ia : In A a
  ib : In n b

theorem PairOk.len {a b : List Int} {n A : Int} (h : PairOk a b n A) {i j : Int} (i0 : 0 ≤ i) (i1 : i < (a.length : Int)) (j0 : 0 ≤ j) (j1 : j < (b.length : Int)) (F : Int → Int) :
    ((tab (i * (b.length : Int) + j) F).length : Int) ≤ 1600 := by
  have hb1 := mulb i0 i1 j0 j1
  have hB := mulB (n := (a.length : Int)) (m := (b.length : Int)) (N := 40) (M := 40) (by omega) h.la (by omega) h.lb
  rw [tab_len' _ _ (by omega)]; omega
theorem PairOk.small {a b : List Int} {n A : Int} (h : PairOk a b n A) : Small (pairL a b n) := by
  have hB := mulB (n := (a.length : Int)) (m := (b.length : Int)) (N := 40) (M := 40) (by omega) h.la (by omega) h.lb
  unfold Small pairL; rw [tab_len' _ _ hB.1]; omega

/-- A loop that pushes F 0, F 1, .. -/
theorem push_loop {α ρ : Type} {n : Int} (h0 : 0 ≤ n) (hf : n < 4294967296) {F : Int → α} {step : List α × Int → (List α × Int → Option ρ) → Option ρ} {Q : ρ → Prop}
    (hgo : ∀ (i : Int) next, 0 ≤ i → i < n → ((tab i F).length : Int) = i → Ret (next (tab i F ++ [F i], IntKind.i64.wrap (i + 1))) Q → Ret (step (tab i F, i) next) Q)
    (hend : ∀ next, Ret (step (tab n F, n) next) Q) : Ret (iter step fuel (([] : List α), 0)) Q := by
  refine Ret.acc n (fun i s => s = tab i F) h0 hf rfl ?_ ?_
  · rintro i s next i0 i1 rfl hn
    exact hgo i next i0 i1 (tab_len' _ _ i0) (hn _ (tab_succ F i0).symm)
  · rintro s next rfl
    exact hend next

end Go.Gx
