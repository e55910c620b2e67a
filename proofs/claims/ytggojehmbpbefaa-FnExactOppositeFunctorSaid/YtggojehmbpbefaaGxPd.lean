/- Plain laws: opposites and discrete fibrations; the law of IsDiscreteFibration. -/
import Derived.Test.YtggojehmbpbefaaGxPf
namespace Go.Gx
open Classical
set_option maxHeartbeats 1000000

def opC (c : XCategory) : XCategory := ⟨c.Objects, c.To, c.From, c.Identity, tab (c.From.length : Int) fun i => tab (c.From.length : Int) fun j => cmp c j i⟩
def opF (f : XFunctor) : XFunctor := ⟨opC f.Source, opC f.Target, f.Objects, f.Arrows⟩

theorem opC_small {c : XCategory} (h : Shp c) : SmallC (opC c) := by
  obtain ⟨s1, s2, s3, s4, s5⟩ := h.small
  have hm := h.m40
  refine ⟨s2, s1, s3, ?_, ?_⟩
  · simp only [opC, Small, tab_length]; omega
  · intro r hr
    obtain ⟨i, h0, h1, rfl⟩ := mem_el hr
    simp only [opC, tab_length] at h1
    simp only [opC, Small]
    rw [el_tab h0 (by omega), tab_length]; omega

theorem l03Op_eq {c : XCategory} (h : Shp c) : M.spec_l03Op c = some (opC c) := by
  apply Ret.eq
  obtain ⟨s1, s2, s3, s4, s5⟩ := h.small
  unfold M.spec_l03Op
  refine Ret.call (own_eq s2) (Ret.call (own_eq s1) (Ret.call (own_eq s3) ?_))
  have hm := h.m40
  have hc := h.lco
  refine Ret.acc (c.From.length : Int) (fun i a => a = tab i fun i => tab (c.From.length : Int) fun j => cmp c j i) (by omega) (by omega) rfl ?_ ?_
  · rintro i a next hi0 hi1 rfl hn1
    dsimp only
    simp only [decide_eq_true_eq]
    rw [if_pos hi1]
    refine Ret.acc (c.From.length : Int) (fun j a => a = tab j fun j => cmp c j i) (by omega) (by omega) rfl ?_ ?_
    · rintro j a next' hj0 hj1 rfl hn2
      dsimp only
      have hr := h.row j hj0 hj1
      (repeat' (first | with_reducible refine Ret.pos ‹_› ?_ | with_reducible refine Ret.neg ‹_› ?_ | with_reducible refine Ret.neg (Int.lt_irrefl _) ?_ | with_reducible refine Ret.ite (fun _ => ?_) (fun _ => ?_) | with_reducible refine Ret.idx ?_ ?_ ?_ | with_reducible refine Ret.chk ?_ ?_ | with_reducible refine hn3 ?_ | with_reducible refine hn2 ?_ | with_reducible refine hn1 ?_ | with_reducible refine hn3 _ ?_ | with_reducible refine hn2 _ ?_ | with_reducible refine hn1 _ ?_ | with_reducible refine Ret.some ?_))
      · exact hj0
      · omega
      · exact hi0
      · omega
      · rw [tab_length]; unfold lim; simp; omega
      · exact (tab_succ _ hj0).symm
    · rintro a next' rfl
      dsimp only
      rw [if_neg (by omega)]
      refine Ret.chk (by rw [tab_length]; unfold lim; omega) (hn1 _ (tab_succ (fun i => tab (c.From.length : Int) fun j => cmp c j i) hi0).symm)
  · rintro a next rfl
    dsimp only
    simp only [decide_eq_true_eq]
    rw [if_neg (by omega)]
    exact Ret.some rfl

theorem l06Op_eq {f : XFunctor} (h : SmallF f) (hS : Shp f.Source) (hT : Shp f.Target) : M.spec_l06Op f = some (opF f) := by
  unfold M.spec_l06Op
  rw [l03Op_eq hS, l03Op_eq hT]
  show (M.spec_l06Make _ _ _ _).bind _ = _
  rw [l06Make_eq (opC_small hS) (opC_small hT) h.s3 h.s4]; rfl

/-- A table of composites, asked only where two arrows meet. -/
theorem table_eq {c : XCategory} {g : Int → Int → Option Int} {v : Int → Int → Int} (hm : (c.From.length : Int) ≤ 40) (ht : (c.To.length : Int) = (c.From.length : Int))
    (hg : ∀ i j, 0 ≤ i → i < (c.From.length : Int) → 0 ≤ j → j < (c.From.length : Int) → el c.To i = el c.From j → g i j = some (v i j)) :
    M.impl_Category_table c g = some ⟨c.Objects, c.From, c.To, c.Identity, tab (c.From.length : Int) fun i => tab (c.From.length : Int) fun j => if el c.To i = el c.From j then v i j else -1⟩ := by
  apply Ret.eq
  unfold M.impl_Category_table M.impl_Category_arrows
  simp only [Option.bind_some]
  refine Ret.chk ⟨by omega, by unfold lim; omega⟩ ?_
  simp only [List.length_replicate]
  have e1 : (((c.From.length : Int).toNat : Nat) : Int) = (c.From.length : Int) := by omega
  simp only [e1]
  refine Ret.acc (c.From.length : Int) (fun i a => a = tab (c.From.length : Int) fun k => if k < i then (tab (c.From.length : Int) fun j => if el c.To k = el c.From j then v k j else -1) else []) (by omega) (by omega) ?_ ?_ ?_
  · rw [rep_tab]; apply tab_congr; intro j h0 h1; rw [if_neg (by omega)]
  · rintro i a next hi0 hi1 rfl hn1
    dsimp only
    simp only [decide_eq_true_eq]
    rw [if_pos hi1, set_tab hi0, rep_tab]
    refine Ret.idx hi0 (by rw [tab_length]; omega) ?_
    refine Ret.idx hi0 (by rw [tab_length]; omega) ?_
    rw [el_tab hi0 hi1]
    simp only [if_true, tab_length, e1]
    refine Ret.acc (c.From.length : Int) (fun j a => a = tab (c.From.length : Int) fun k => if k = i then (tab (c.From.length : Int) fun l => if l < j then (if el c.To k = el c.From l then v k l else -1) else 0) else if k < i then (tab (c.From.length : Int) fun j => if el c.To k = el c.From j then v k j else -1) else []) (by omega) (by omega) ?_ ?_ ?_
    · apply tab_congr
      intro k hk0 hk1
      by_cases hk : k = i
      · simp only [hk, if_true]
        apply tab_congr; intro l hl0 hl1; rw [if_neg (by omega)]
      · simp only [if_neg hk]
    · rintro j a next' hj0 hj1 rfl hn2
      dsimp only
      rw [if_pos hj1]
      refine Ret.idx hi0 (by rw [tab_length]; omega) ?_
      rw [el_tab hi0 hi1]
      simp only [if_true]
      refine Ret.idx hj0 (by rw [tab_length]; omega) ?_
      refine Ret.idx hi0 (by omega) (Ret.idx hj0 hj1 ?_)
      refine Ret.ite (fun hb => ?_) (fun hb => ?_)
      · have hb' : el c.To i = el c.From j := by simpa using hb
        simp only [set_tab hi0, set_tab hj0]
        refine Ret.idx hi0 (by rw [tab_length]; omega) ?_
        rw [el_tab hi0 hi1]
        simp only [if_true]
        refine Ret.call (hg i j hi0 hi1 hj0 hj1 hb') ?_
        refine Ret.idx hj0 (by rw [tab_length]; omega) (hn2 _ ?_)
        simp only [set_tab hj0]
        apply tab_congr
        intro k hk0 hk1
        by_cases hk : k = i
        · simp only [hk, if_true]
          apply tab_congr; intro l hl0 hl1
          by_cases hl : l = j
          · subst hl; rw [if_pos rfl, if_pos (show l < l + 1 by omega), if_pos hb']
          · simp only [if_neg hl]
            by_cases hlj : l < j
            · rw [if_pos hlj, if_pos (show l < j + 1 by omega)]
            · rw [if_neg hlj, if_neg (show ¬ l < j + 1 by omega)]
        · simp only [if_neg hk]
      · have hb' : ¬ el c.To i = el c.From j := by simpa using hb
        simp only [set_tab hi0, set_tab hj0]
        refine hn2 _ ?_
        apply tab_congr
        intro k hk0 hk1
        by_cases hk : k = i
        · simp only [hk, if_true]
          apply tab_congr; intro l hl0 hl1
          by_cases hl : l = j
          · subst hl; rw [if_pos rfl, if_pos (show l < l + 1 by omega), if_neg hb']
          · simp only [if_neg hl]
            by_cases hlj : l < j
            · rw [if_pos hlj, if_pos (show l < j + 1 by omega)]
            · rw [if_neg hlj, if_neg (show ¬ l < j + 1 by omega)]
        · simp only [if_neg hk]
    · rintro a next' rfl
      dsimp only
      rw [if_neg (by omega)]
      refine hn1 _ ?_
      apply tab_congr
      intro k hk0 hk1
      by_cases hk : k = i
      · subst hk
        simp only [if_true]
        rw [if_pos (by omega)]
        apply tab_congr; intro l hl0 hl1; rw [if_pos (by omega)]
      · simp only [if_neg hk]
        by_cases hlt : k < i
        · rw [if_pos hlt, if_pos (by omega)]
        · rw [if_neg hlt, if_neg (by omega)]
  · rintro a next rfl
    dsimp only
    simp only [decide_eq_true_eq]
    rw [if_neg (by omega)]
    refine Ret.some ?_
    congr 1
    apply tab_congr
    intro k hk0 hk1
    rw [if_pos hk1]

theorem opposite_eq {c : XCategory} (h : Shp c) : M.impl_opposite c = some (opC c) := by
  obtain ⟨s1, s2, s3, s4, s5⟩ := h.small
  have hm := h.m40
  have ht := h.lto
  have hc := h.lco
  unfold M.impl_opposite
  rw [clone_eq s1, clone_eq s2, clone_eq s3]
  simp only [Option.bind_some]
  rw [table_eq (v := fun i j => cmp c j i)]
  · simp only [Option.bind_some, opC, ht, Option.some.injEq, XCategory.mk.injEq, true_and]
    apply tab_congr; intro i hi0 hi1
    apply tab_congr; intro j hj0 hj1
    split
    · rfl
    · rename_i hne
      exact (h.no j i hj0 hj1 hi0 hi1 (fun e => hne e.symm)).symm
  · show (c.To.length : Int) ≤ 40
    omega
  · show (c.From.length : Int) = (c.To.length : Int)
    omega
  · intro i j hi0 hi1 hj0 hj1 _
    unfold M.impl_opposite_1
    have hi2 : i < (c.From.length : Int) := by
      have : i < (c.To.length : Int) := hi1
      omega
    have hj2 : j < (c.From.length : Int) := by
      have : j < (c.To.length : Int) := hj1
      omega
    have := h.row j hj0 hj2
    rw [then_eq hj0 (by omega) hi0 (by omega)]; rfl

theorem Functor_opposite_eq {f : XFunctor} (h : SmallF f) (hS : Shp f.Source) (hT : Shp f.Target) : M.impl_Functor_opposite f = some (opF f) := by
  unfold M.impl_Functor_opposite
  rw [opposite_eq hS, opposite_eq hT]
  show (M.impl_functor _ _ _ _).bind _ = _
  rw [functor_eq (opC_small hS) (opC_small hT) h.s3 h.s4]; rfl

/-- The arrows out of x that lie over t. -/
abbrev lifts (f : XFunctor) (x t : Int) : List Int := fil (f.Source.From.length : Int) fun s => el f.Source.From s == x && el f.Arrows s == t

structure Flat (f : XFunctor) : Prop where
  s1 : Small f.Source.From
  s2 : Small f.Target.From
  la : (f.Arrows.length : Int) = (f.Source.From.length : Int)
  lo : (f.Objects.length : Int) = f.Source.Objects
  so : Small f.Objects

theorem l34Lifts_eq {f : XFunctor} (h : Flat f) {x t : Int} : M.spec_l34Lifts f x t = some (lifts f x t) := by
  apply Ret.eq
  obtain ⟨h1, h2, h3, h4, h5⟩ := h
  unfold M.spec_l34Lifts
  refine Ret.acc (f.Source.From.length : Int) (fun i a => a = fil i fun s => el f.Source.From s == x && el f.Arrows s == t) (by omega) (by omega) rfl ?_ ?_
  · rintro i a next hi0 hi1 rfl hn1
    have hle := fil_length_le i fun s => el f.Source.From s == x && el f.Arrows s == t
    dsimp only
    simp only [decide_eq_true_eq, beq_iff_eq]
    (repeat' (first | with_reducible refine Ret.pos ‹_› ?_ | with_reducible refine Ret.neg ‹_› ?_ | with_reducible refine Ret.neg (Int.lt_irrefl _) ?_ | with_reducible refine Ret.ite (fun _ => ?_) (fun _ => ?_) | with_reducible refine Ret.idx ?_ ?_ ?_ | with_reducible refine Ret.chk ?_ ?_ | with_reducible refine hn3 ?_ | with_reducible refine hn2 ?_ | with_reducible refine hn1 ?_ | with_reducible refine hn3 _ ?_ | with_reducible refine hn2 _ ?_ | with_reducible refine hn1 _ ?_ | with_reducible refine Ret.some ?_))
    · exact hi0
    · omega
    · exact hi0
    · omega
    · unfold lim; simp only [List.length_cons, List.length_nil]; omega
    · rw [fil_succ _ hi0]; simp [*]
    · rw [fil_succ _ hi0]; simp [*]
    · rw [fil_succ _ hi0]; simp [*]
    · omega
  · rintro a next rfl
    dsimp only
    simp only [decide_eq_true_eq]
    rw [if_neg (by omega)]
    exact Ret.some rfl

def Disc (f : XFunctor) : Prop := ∀ x t, 0 ≤ x → x < f.Source.Objects → 0 ≤ t → t < (f.Target.From.length : Int) → el f.Target.From t = el f.Objects x → ((lifts f x t).length : Int) = 1

theorem l34Discrete_eq {f : XFunctor} (h : Flat f) : M.spec_l34Discrete f = some (decide (Disc f)) := by
  apply Ret.ask
  unfold M.spec_l34Discrete
  obtain ⟨h1, h2, h3, h4, h5⟩ := id h
  simp only [decide_eq_true_eq, beq_iff_eq, bne_iff_ne, ne_eq]
  refine Ret.all f.Source.Objects (fun x => ∀ t, 0 ≤ t → t < (f.Target.From.length : Int) → el f.Target.From t = el f.Objects x → ((lifts f x t).length : Int) = 1) (by omega) (by omega) ?_ ?_
  · intro x next hx0 hx1 hp hn1
    (repeat' (first | with_reducible refine Ret.pos ‹_› ?_ | with_reducible refine Ret.neg ‹_› ?_ | with_reducible refine Ret.neg (Int.lt_irrefl _) ?_ | with_reducible refine Ret.ite (fun _ => ?_) (fun _ => ?_) | with_reducible refine Ret.idx ?_ ?_ ?_ | with_reducible refine Ret.chk ?_ ?_ | with_reducible refine hn3 ?_ | with_reducible refine hn2 ?_ | with_reducible refine hn1 ?_ | with_reducible refine hn3 _ ?_ | with_reducible refine hn2 _ ?_ | with_reducible refine hn1 _ ?_ | with_reducible refine Ret.some ?_))
    all_goals (try ((fail_if_success (with_reducible refine Ret.probe ?_)); grind))
    refine Ret.all (f.Target.From.length : Int) (fun t => el f.Target.From t = el f.Objects x → ((lifts f x t).length : Int) = 1) (by omega) (by omega) ?_ ?_
    · intro t next ht0 ht1 hq hn2
      (repeat' (first | with_reducible refine Ret.pos ‹_› ?_ | with_reducible refine Ret.neg ‹_› ?_ | with_reducible refine Ret.neg (Int.lt_irrefl _) ?_ | with_reducible refine Ret.ite (fun _ => ?_) (fun _ => ?_) | with_reducible refine Ret.idx ?_ ?_ ?_ | with_reducible refine Ret.chk ?_ ?_ | with_reducible refine hn3 ?_ | with_reducible refine hn2 ?_ | with_reducible refine hn1 ?_ | with_reducible refine hn3 _ ?_ | with_reducible refine hn2 _ ?_ | with_reducible refine hn1 _ ?_ | with_reducible refine Ret.call (l34Lifts_eq h) ?_ | with_reducible refine Ret.some ?_))
      all_goals (try ((fail_if_success (with_reducible refine Ret.probe ?_)); grind [Disc]))
    · intro next hq
      (repeat' (first | with_reducible refine Ret.pos ‹_› ?_ | with_reducible refine Ret.neg ‹_› ?_ | with_reducible refine Ret.neg (Int.lt_irrefl _) ?_ | with_reducible refine Ret.ite (fun _ => ?_) (fun _ => ?_) | with_reducible refine Ret.idx ?_ ?_ ?_ | with_reducible refine Ret.chk ?_ ?_ | with_reducible refine hn3 ?_ | with_reducible refine hn2 ?_ | with_reducible refine hn1 ?_ | with_reducible refine hn3 _ ?_ | with_reducible refine hn2 _ ?_ | with_reducible refine hn1 _ ?_ | with_reducible refine Ret.some ?_))
      all_goals (try ((fail_if_success (with_reducible refine Ret.probe ?_)); grind))
  · intro next hp
    (repeat' (first | with_reducible refine Ret.pos ‹_› ?_ | with_reducible refine Ret.neg ‹_› ?_ | with_reducible refine Ret.neg (Int.lt_irrefl _) ?_ | with_reducible refine Ret.ite (fun _ => ?_) (fun _ => ?_) | with_reducible refine Ret.idx ?_ ?_ ?_ | with_reducible refine Ret.chk ?_ ?_ | with_reducible refine hn3 ?_ | with_reducible refine hn2 ?_ | with_reducible refine hn1 ?_ | with_reducible refine hn3 _ ?_ | with_reducible refine hn2 _ ?_ | with_reducible refine hn1 _ ?_ | with_reducible refine Ret.some ?_))
    all_goals (try ((fail_if_success (with_reducible refine Ret.probe ?_)); grind [Disc]))

theorem outOf_eq {c : XCategory} (h : Small c.From) (x : Int) : M.impl_Category_outOf c x = some (fil (c.From.length : Int) fun s => el c.From s == x) := by
  apply Ret.eq
  unfold M.impl_Category_outOf
  refine Ret.acc (c.From.length : Int) (fun i a => a = fil i fun s => el c.From s == x) (by omega) (by omega) rfl ?_ ?_
  · rintro i a next hi0 hi1 rfl hn1
    have hle := fil_length_le i fun s => el c.From s == x
    dsimp only
    simp only [decide_eq_true_eq, beq_iff_eq]
    (repeat' (first | with_reducible refine Ret.pos ‹_› ?_ | with_reducible refine Ret.neg ‹_› ?_ | with_reducible refine Ret.neg (Int.lt_irrefl _) ?_ | with_reducible refine Ret.ite (fun _ => ?_) (fun _ => ?_) | with_reducible refine Ret.idx ?_ ?_ ?_ | with_reducible refine Ret.chk ?_ ?_ | with_reducible refine hn3 ?_ | with_reducible refine hn2 ?_ | with_reducible refine hn1 ?_ | with_reducible refine hn3 _ ?_ | with_reducible refine hn2 _ ?_ | with_reducible refine hn1 _ ?_ | with_reducible refine Ret.some ?_))
    · exact hi0
    · exact hi1
    · unfold lim; simp only [List.length_cons, List.length_nil]; omega
    · rw [fil_succ _ hi0]; simp [*]
    · rw [fil_succ _ hi0]; simp [*]
  · rintro a next rfl
    dsimp only
    simp only [decide_eq_true_eq]
    rw [if_neg (by omega)]
    exact Ret.some rfl

theorem over_eq {f : XFunctor} (h : Flat f) {x t : Int} : M.impl_Functor_over f x t = some (lifts f x t) := by
  apply Ret.eq
  obtain ⟨h1, h2, h3, h4, h5⟩ := h
  unfold M.impl_Functor_over
  refine Ret.call (outOf_eq h1 x) ?_
  have hle := fil_length_le (f.Source.From.length : Int) fun s => el f.Source.From s == x
  have hin : ∀ y ∈ fil (f.Source.From.length : Int) fun s => el f.Source.From s == x, 0 ≤ y ∧ y < (f.Source.From.length : Int) := fun y hy => ⟨(fil_mem.1 hy).1, (fil_mem.1 hy).2.1⟩
  have hfin : lifts f x t = (fil (f.Source.From.length : Int) fun s => el f.Source.From s == x).filter fun s => el f.Arrows s == t := (fil_filter _ _ _).symm
  rw [hfin]
  generalize (fil (f.Source.From.length : Int) fun s => el f.Source.From s == x) = l at hle hin
  refine Ret.acc (l.length : Int) (fun i a => a = (l.take i.toNat).filter fun s => el f.Arrows s == t) (by omega) (by omega) rfl ?_ ?_
  · rintro i a next hi0 hi1 rfl hn1
    have hle2 := List.length_filter_le (fun s => el f.Arrows s == t) (l.take i.toNat)
    rw [List.length_take] at hle2
    have hx := hin _ (el_mem hi0 hi1)
    dsimp only
    simp only [decide_eq_true_eq, beq_iff_eq]
    (repeat' (first | with_reducible refine Ret.pos ‹_› ?_ | with_reducible refine Ret.neg ‹_› ?_ | with_reducible refine Ret.neg (Int.lt_irrefl _) ?_ | with_reducible refine Ret.ite (fun _ => ?_) (fun _ => ?_) | with_reducible refine Ret.idx ?_ ?_ ?_ | with_reducible refine Ret.chk ?_ ?_ | with_reducible refine hn3 ?_ | with_reducible refine hn2 ?_ | with_reducible refine hn1 ?_ | with_reducible refine hn3 _ ?_ | with_reducible refine hn2 _ ?_ | with_reducible refine hn1 _ ?_ | with_reducible refine Ret.some ?_))
    · exact hi0
    · exact hi1
    · exact hx.1
    · omega
    · unfold lim; simp only [List.length_cons, List.length_nil]; omega
    · rw [take_succ_el hi0 hi1]; simp [*]
    · rw [take_succ_el hi0 hi1]; simp [*]
  · rintro a next rfl
    dsimp only
    simp only [decide_eq_true_eq]
    rw [if_neg (by omega)]
    refine Ret.some ?_
    simp

theorem isDiscreteOpfibration_eq {f : XFunctor} (h : Flat f) : M.impl_Functor_isDiscreteOpfibration f = some (decide (Disc f)) := by
  apply Ret.ask
  unfold M.impl_Functor_isDiscreteOpfibration
  obtain ⟨h1, h2, h3, h4, h5⟩ := id h
  simp only [decide_eq_true_eq, beq_iff_eq, bne_iff_ne, ne_eq]
  refine Ret.all (f.Objects.length : Int) (fun x => ∀ t, 0 ≤ t → t < (f.Target.From.length : Int) → el f.Target.From t = el f.Objects x → ((lifts f x t).length : Int) = 1) (by omega) (by omega) ?_ ?_
  · intro x next hx0 hx1 hp hn1
    (repeat' (first | with_reducible refine Ret.pos ‹_› ?_ | with_reducible refine Ret.neg ‹_› ?_ | with_reducible refine Ret.neg (Int.lt_irrefl _) ?_ | with_reducible refine Ret.ite (fun _ => ?_) (fun _ => ?_) | with_reducible refine Ret.idx ?_ ?_ ?_ | with_reducible refine Ret.chk ?_ ?_ | with_reducible refine hn3 ?_ | with_reducible refine hn2 ?_ | with_reducible refine hn1 ?_ | with_reducible refine hn3 _ ?_ | with_reducible refine hn2 _ ?_ | with_reducible refine hn1 _ ?_ | with_reducible refine Ret.call (outOf_eq h2 _) ?_ | with_reducible refine Ret.some ?_))
    all_goals (try ((fail_if_success (with_reducible refine Ret.probe ?_)); grind))
    have hle := fil_length_le (f.Target.From.length : Int) fun s => el f.Target.From s == el f.Objects x
    have hmem : ∀ t, t ∈ (fil (f.Target.From.length : Int) fun s => el f.Target.From s == el f.Objects x) ↔ 0 ≤ t ∧ t < (f.Target.From.length : Int) ∧ el f.Target.From t = el f.Objects x := by
      intro t; rw [fil_mem, beq_iff_eq]
    generalize (fil (f.Target.From.length : Int) fun s => el f.Target.From s == el f.Objects x) = l at hle hmem
    refine Ret.all (l.length : Int) (fun k => ((lifts f x (el l k)).length : Int) = 1) (by omega) (by omega) ?_ ?_
    · intro k next hk0 hk1 hq hn2
      have hk := (hmem _).1 (el_mem hk0 hk1)
      have hno : ¬ ((lifts f x (el l k)).length : Int) = 1 → ¬ Disc f := fun hx hd => hx (hd x _ hx0 (by omega) hk.1 hk.2.1 hk.2.2)
      (repeat' (first | with_reducible refine Ret.pos ‹_› ?_ | with_reducible refine Ret.neg ‹_› ?_ | with_reducible refine Ret.neg (Int.lt_irrefl _) ?_ | with_reducible refine Ret.ite (fun _ => ?_) (fun _ => ?_) | with_reducible refine Ret.idx ?_ ?_ ?_ | with_reducible refine Ret.chk ?_ ?_ | with_reducible refine hn3 ?_ | with_reducible refine hn2 ?_ | with_reducible refine hn1 ?_ | with_reducible refine hn3 _ ?_ | with_reducible refine hn2 _ ?_ | with_reducible refine hn1 _ ?_ | with_reducible refine Ret.call (over_eq h) ?_ | with_reducible refine Ret.some ?_))
      all_goals (try ((fail_if_success (with_reducible refine Ret.probe ?_)); grind))
    · intro next hq
      (repeat' (first | with_reducible refine Ret.pos ‹_› ?_ | with_reducible refine Ret.neg ‹_› ?_ | with_reducible refine Ret.neg (Int.lt_irrefl _) ?_ | with_reducible refine Ret.ite (fun _ => ?_) (fun _ => ?_) | with_reducible refine Ret.idx ?_ ?_ ?_ | with_reducible refine Ret.chk ?_ ?_ | with_reducible refine hn3 ?_ | with_reducible refine hn2 ?_ | with_reducible refine hn1 ?_ | with_reducible refine hn3 _ ?_ | with_reducible refine hn2 _ ?_ | with_reducible refine hn1 _ ?_ | with_reducible refine Ret.some ?_))
      intro t ht0 ht1 he
      obtain ⟨k, hk0, hk1, rfl⟩ := mem_el ((hmem t).2 ⟨ht0, ht1, he⟩)
      exact hq k hk0 hk1
  · intro next hp
    (repeat' (first | with_reducible refine Ret.pos ‹_› ?_ | with_reducible refine Ret.neg ‹_› ?_ | with_reducible refine Ret.neg (Int.lt_irrefl _) ?_ | with_reducible refine Ret.ite (fun _ => ?_) (fun _ => ?_) | with_reducible refine Ret.idx ?_ ?_ ?_ | with_reducible refine Ret.chk ?_ ?_ | with_reducible refine hn3 ?_ | with_reducible refine hn2 ?_ | with_reducible refine hn1 ?_ | with_reducible refine hn3 _ ?_ | with_reducible refine hn2 _ ?_ | with_reducible refine hn1 _ ?_ | with_reducible refine Ret.some ?_))
    all_goals (try ((fail_if_success (with_reducible refine Ret.probe ?_)); grind [Disc]))

theorem opF_flat {f : XFunctor} (hs : SmallF f) (h : IsFun f) : Flat (opF f) := by
  obtain ⟨hS, hT, hF⟩ := h
  have := hF.la
  have := hS.1.shp.lto
  exact ⟨hs.s1.s2, hs.s2.s2, by show (f.Arrows.length : Int) = (f.Source.To.length : Int); omega, hF.lo, hs.s3⟩

theorem spec_IsDiscreteFibration_eq {f : XFunctor} (hs : SmallF f) : M.spec_IsDiscreteFibration f = some (if IsFun f then (decide (Disc (opF f)), 0) else (false, 1)) := by
  unfold M.spec_IsDiscreteFibration
  rw [l06Is_eq hs]
  by_cases h : IsFun f
  · simp only [Option.bind_some, h, decide_true, if_true]
    rw [l06Op_eq hs h.1.1.shp h.2.1.1.shp]
    simp only [Option.bind_some]
    rw [l34Discrete_eq (opF_flat hs h)]; rfl
  · simp [h]

theorem impl_IsDiscreteFibration_eq {f : XFunctor} (hs : SmallF f) : M.impl_IsDiscreteFibration f = some (if IsFun f then (decide (Disc (opF f)), 0) else (false, 1)) := by
  unfold M.impl_IsDiscreteFibration M.impl_asked M.impl_IsDiscreteFibration_1
  rw [isFunctor_eq hs]
  by_cases h : IsFun f
  · simp only [Option.bind_some, h, decide_true, if_true]
    rw [Functor_opposite_eq hs h.1.1.shp h.2.1.1.shp]
    simp only [Option.bind_some]
    rw [isDiscreteOpfibration_eq (opF_flat hs h)]; rfl
  · simp [h]

theorem fitsC {c : XCategory} (h : R.XCategory c) : FitsC c := ⟨h.2.1.1, h.2.2.1.1, h.2.2.2.1.1, h.2.2.2.2.1, fun r hr => (h.2.2.2.2.2 r hr).1⟩
theorem fitsF {f : XFunctor} (h : R.XFunctor f) : FitsF f := ⟨fitsC h.1, fitsC h.2.1, h.2.2.1.1, h.2.2.2.1⟩

theorem law_IsDiscreteFibration {f : XFunctor} (h : R.XFunctor f) : M.laws_FnExactIsDiscreteFibration f = some true := by
  unfold M.laws_FnExactIsDiscreteFibration
  obtain ⟨v, e, hv⟩ := szFunctor_r (n := 1048576) (by decide) (by decide) (fitsF h)
  rw [e]
  simp only [Option.bind_some, decide_eq_true_eq]
  split
  · rfl
  · have hs : SmallF f := by
      rcases hv with ⟨h1, _⟩ | ⟨_, _, h3⟩
      · exact absurd h1 ‹_›
      · exact h3
    rw [toFunctor_eq hs]
    simp only [Option.bind_some]
    rw [spec_IsDiscreteFibration_eq hs, impl_IsDiscreteFibration_eq hs]
    simp only [Option.bind_some]
    rw [eqFunctor_refl hs]
    simp

end Go.Gx
