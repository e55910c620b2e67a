/- Plain laws: arrows out of an object. -/
import Derived.Test.YtjmjhhhglbeacaaGxPf
import Derived.Test.YtjmjhhhglbeacaaGxyNM
namespace Go.Gx
open Classical
set_option maxHeartbeats 1000000

theorem outOf_eq {c : XCategory} (h : Small c.From) (x : Int) : M.impl_Category_outOf c x = some (fil (c.From.length : Int) fun s => el c.From s == x) := by
  apply Ret.eq
  unfold M.impl_Category_outOf
  refine Ret.acc (c.From.length : Int) (fun i a => a = fil i fun s => el c.From s == x) (by omega) (by omega) rfl ?_ ?_
  · rintro i a next hi0 hi1 rfl hn1
    have hle := fil_length_le i fun s => el c.From s == x
    dsimp only
    simp only [decide_eq_true_eq, beq_iff_eq]
    (repeat' (first | with_reducible refine Ret.pos ‹_› ?_ | with_reducible refine Ret.neg ‹_› ?_ | with_reducible refine Ret.neg (Int.lt_irrefl _) ?_ | with_reducible refine Ret.ite (fun _ => ?_) (fun _ => ?_) | with_reducible refine Ret.idx ?_ ?_ ?_ | with_reducible refine Ret.chk ?_ ?_ | with_reducible refine hn3 ?_ | with_reducible refine hn2 ?_ | with_reducible refine hn1 ?_ | with_reducible refine hn3 _ ?_ | with_reducible refine hn2 _ ?_ | with_reducible refine hn1 _ ?_ | with_reducible refine Ret.some ?_))
    · exact hi0
    · exact hi1
    · unfold lim; simp only [List.length_cons, List.length_nil]; omega
    · rw [fil_succ _ hi0]; simp [*]
    · rw [fil_succ _ hi0]; simp [*]
  · rintro a next rfl
    dsimp only
    simp only [decide_eq_true_eq]
    rw [if_neg (by omega)]
    exact Ret.some rfl

end Go.Gx
