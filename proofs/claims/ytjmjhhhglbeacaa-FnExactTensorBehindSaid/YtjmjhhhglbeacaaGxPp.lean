/- Plain laws: products of categories. -/
import Derived.Test.YtjmjhhhglbeacaaGxPu
import Derived.Test.YtjmjhhhglbeacaaGxL3M
namespace Go.Gx
open Classical
set_option maxHeartbeats 2000000

theorem mulb {i j n m : Int} (i0 : 0 ≤ i) (h : i < n) (h0 : 0 ≤ j) (h1 : j < m) : 0 ≤ i * m ∧ i * m + j < n * m ∧ i * m + m ≤ n * m := by
  have e1 : (i + 1) * m ≤ n * m := Int.mul_le_mul_of_nonneg_right (by omega) (by omega)
  rw [Int.add_mul, Int.one_mul] at e1
  have e2 := Int.mul_nonneg i0 (show 0 ≤ m by omega)
  omega
theorem mulB {n m N M : Int} (h0 : 0 ≤ n) (h1 : n ≤ N) (h2 : 0 ≤ m) (h3 : m ≤ M) : 0 ≤ n * m ∧ n * m ≤ N * M :=
  ⟨Int.mul_nonneg h0 h2, Int.mul_le_mul h1 h3 h2 (by omega)⟩
theorem parts {k n m : Int} (h0 : 0 ≤ k) (h1 : k < n * m) (hm : 0 ≤ m) : 0 < m ∧ 0 ≤ k / m ∧ k / m < n ∧ 0 ≤ k % m ∧ k % m < m := by
  have hm : 0 < m := by
    rcases Int.lt_or_eq_of_le hm with h | h
    · exact h
    · rw [← h, Int.mul_zero] at h1; omega
  exact ⟨hm, Int.ediv_nonneg h0 (by omega), Int.ediv_lt_of_lt_mul hm h1, Int.emod_nonneg _ (by omega), Int.emod_lt_of_pos _ hm⟩
/-- Two numbers as one, over all pairs. -/
abbrev tab2 {α : Type} (n m : Int) (f : Int → Int → α) : List α := tab (n * m) fun k => f (k / m) (k % m)
theorem tab_len' (n : Int) {α : Type} (f : Int → α) (h : 0 ≤ n) : ((tab n f).length : Int) = n := by rw [tab_length]; omega

end Go.Gx
