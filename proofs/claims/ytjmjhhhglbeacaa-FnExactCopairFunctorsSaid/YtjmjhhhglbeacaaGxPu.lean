/- Plain laws: the first numbers, the identity functor. -/
import Derived.Test.YtjmjhhhglbeacaaGxPm
import Derived.Test.YtjmjhhhglbeacaaGxNuM
namespace Go.Gx
open Classical
set_option maxHeartbeats 2000000

theorem numbers_eq {n : Int} (h0 : 0 ≤ n) (h1 : n ≤ 1048576) : M.impl_numbers n = some (tab n fun j => j) := by
  apply Ret.eq
  unfold M.impl_numbers
  refine Ret.chk ⟨h0, by unfold lim; omega⟩ ?_
  have e1 : ((n.toNat : Nat) : Int) = n := by omega
  simp only [List.length_replicate, e1, decide_eq_true_eq]
  refine Ret.acc n (fun i s => s = tab n fun j => if j < i then j else 0) h0 (by omega) ?_ ?_ ?_
  · rw [rep_tab]; apply tab_congr; intro j j0 j1; rw [if_neg (by omega)]
  · rintro i s next hi0 hi1 rfl hn1
    dsimp only
    rw [if_pos hi1]
    refine Ret.idx hi0 (by rw [tab_length]; omega) (hn1 _ ?_)
    rw [set_tab hi0]
    apply tab_congr; intro j j0 j1
    by_cases hj : j = i
    · subst hj; rw [if_pos rfl, if_pos (show j < j + 1 by omega)]
    · rw [if_neg hj]
      by_cases hlt : j < i
      · rw [if_pos hlt, if_pos (show j < i + 1 by omega)]
      · rw [if_neg hlt, if_neg (show ¬ j < i + 1 by omega)]
  · rintro s next rfl
    dsimp only
    rw [if_neg (by omega)]
    refine Ret.some ?_
    apply tab_congr; intro j j0 j1; rw [if_pos j1]

def idF (c : XCategory) : XFunctor := ⟨c, c, tab c.Objects fun j => j, tab (c.From.length : Int) fun j => j⟩

theorem idF_small {c : XCategory} (sc : SmallC c) (h : Shp c) : SmallF (idF c) := by
  have n8 := h.n8
  have m40 := h.m40
  refine ⟨sc, sc, ?_, ?_⟩
  · unfold Small idF; dsimp only; rw [tab_length]; omega
  · unfold Small idF; dsimp only; rw [tab_length]; omega

theorem l06Self_eq {c : XCategory} (sc : SmallC c) (h : Shp c) : M.spec_l06Self c = some (idF c) := by
  apply Ret.eq
  have n0 := h.n0
  have n8 := h.n8
  have m40 := h.m40
  have hs := idF_small sc h
  unfold M.spec_l06Self
  refine Ret.acc c.Objects (fun i s => s = tab i fun j => j) n0 (by omega) rfl ?_ ?_
  · rintro i s next i0 i1 rfl hn1
    dsimp only
    simp only [decide_eq_true_eq]
    rw [if_pos i1]
    refine Ret.chk ?_ (hn1 _ (tab_succ (fun j => j) i0).symm)
    rw [tab_length]; unfold lim; simp only [List.length_cons, List.length_nil]; omega
  · rintro s next rfl
    dsimp only
    simp only [decide_eq_true_eq]
    rw [if_neg (by omega)]
    refine Ret.acc (c.From.length : Int) (fun i s => s = tab i fun j => j) (by omega) (by omega) rfl ?_ ?_
    · rintro i s next i0 i1 rfl hn1
      dsimp only
      rw [if_pos i1]
      refine Ret.chk ?_ (hn1 _ (tab_succ (fun j => j) i0).symm)
      rw [tab_length]; unfold lim; simp only [List.length_cons, List.length_nil]; omega
    · rintro s next rfl
      dsimp only
      rw [if_neg (by omega)]
      exact Ret.call (l06Make_eq sc sc hs.s3 hs.s4) (Ret.some rfl)

theorem identity_eq {c : XCategory} (sc : SmallC c) (h : Shp c) : M.impl_identity c = some (idF c) := by
  have n0 := h.n0
  have n8 := h.n8
  have m40 := h.m40
  have hs := idF_small sc h
  unfold M.impl_identity M.impl_Category_arrows
  rw [numbers_eq n0 (by omega)]
  simp only [Option.bind_some]
  rw [numbers_eq (by omega) (by omega)]
  simp only [Option.bind_some]
  have e := functor_eq sc sc hs.s3 hs.s4
  unfold idF at e
  rw [e]; rfl

end Go.Gx
