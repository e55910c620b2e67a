/- The law of FibreSets. -/
import Derived.Test.YtjmjhhhglbeacaaGxQl
import Derived.Test.YtjmjhhhglbeacaaGxPn
import Derived.Test.YtjmjhhhglbeacaaGxQ47
import Derived.Test.YtjmjhhhglbeacaaGxy20M
namespace Go.Gx
open Classical
set_option maxHeartbeats 1000000

/-- The arrows out of x that lie over t. -/
abbrev lifts (f : XFunctor) (x t : Int) : List Int := fil (f.Source.From.length : Int) fun s => el f.Source.From s == x && el f.Arrows s == t

structure Flat (f : XFunctor) : Prop where
  s1 : Small f.Source.From
  s2 : Small f.Target.From
  la : (f.Arrows.length : Int) = (f.Source.From.length : Int)
  lo : (f.Objects.length : Int) = f.Source.Objects
  so : Small f.Objects

theorem l34Lifts_eq {f : XFunctor} (h : Flat f) {x t : Int} : M.spec_l34Lifts f x t = some (lifts f x t) := by
  apply Ret.eq
  obtain ⟨h1, h2, h3, h4, h5⟩ := h
  unfold M.spec_l34Lifts
  refine Ret.acc (f.Source.From.length : Int) (fun i a => a = fil i fun s => el f.Source.From s == x && el f.Arrows s == t) (by omega) (by omega) rfl ?_ ?_
  · rintro i a next hi0 hi1 rfl hn1
    have hle := fil_length_le i fun s => el f.Source.From s == x && el f.Arrows s == t
    dsimp only
    simp only [decide_eq_true_eq, beq_iff_eq]
    (repeat' (first | with_reducible refine Ret.pos ‹_› ?_ | with_reducible refine Ret.neg ‹_› ?_ | with_reducible refine Ret.neg (Int.lt_irrefl _) ?_ | with_reducible refine Ret.ite (fun _ => ?_) (fun _ => ?_) | with_reducible refine Ret.idx ?_ ?_ ?_ | with_reducible refine Ret.chk ?_ ?_ | with_reducible refine hn3 ?_ | with_reducible refine hn2 ?_ | with_reducible refine hn1 ?_ | with_reducible refine hn3 _ ?_ | with_reducible refine hn2 _ ?_ | with_reducible refine hn1 _ ?_ | with_reducible refine Ret.some ?_))
    · exact hi0
    · omega
    · exact hi0
    · omega
    · unfold lim; simp only [List.length_cons, List.length_nil]; omega
    · rw [fil_succ _ hi0]; simp [*]
    · rw [fil_succ _ hi0]; simp [*]
    · rw [fil_succ _ hi0]; simp [*]
    · omega
  · rintro a next rfl
    dsimp only
    simp only [decide_eq_true_eq]
    rw [if_neg (by omega)]
    exact Ret.some rfl

def Disc (f : XFunctor) : Prop := ∀ x t, 0 ≤ x → x < f.Source.Objects → 0 ≤ t → t < (f.Target.From.length : Int) → el f.Target.From t = el f.Objects x → ((lifts f x t).length : Int) = 1

theorem l34Discrete_eq {f : XFunctor} (h : Flat f) : M.spec_l34Discrete f = some (decide (Disc f)) := by
  apply Ret.ask
  unfold M.spec_l34Discrete
  obtain ⟨h1, h2, h3, h4, h5⟩ := id h
  simp only [decide_eq_true_eq, beq_iff_eq, bne_iff_ne, ne_eq]
  refine Ret.all f.Source.Objects (fun x => ∀ t, 0 ≤ t → t < (f.Target.From.length : Int) → el f.Target.From t = el f.Objects x → ((lifts f x t).length : Int) = 1) (by omega) (by omega) ?_ ?_
  · intro x next hx0 hx1 hp hn1
    (repeat' (first | with_reducible refine Ret.pos ‹_› ?_ | with_reducible refine Ret.neg ‹_› ?_ | with_reducible refine Ret.neg (Int.lt_irrefl _) ?_ | with_reducible refine Ret.ite (fun _ => ?_) (fun _ => ?_) | with_reducible refine Ret.idx ?_ ?_ ?_ | with_reducible refine Ret.chk ?_ ?_ | with_reducible refine hn3 ?_ | with_reducible refine hn2 ?_ | with_reducible refine hn1 ?_ | with_reducible refine hn3 _ ?_ | with_reducible refine hn2 _ ?_ | with_reducible refine hn1 _ ?_ | with_reducible refine Ret.some ?_))
    all_goals (try ((fail_if_success (with_reducible refine Ret.probe ?_)); grind))
    refine Ret.all (f.Target.From.length : Int) (fun t => el f.Target.From t = el f.Objects x → ((lifts f x t).length : Int) = 1) (by omega) (by omega) ?_ ?_
    · intro t next ht0 ht1 hq hn2
      (repeat' (first | with_reducible refine Ret.pos ‹_› ?_ | with_reducible refine Ret.neg ‹_› ?_ | with_reducible refine Ret.neg (Int.lt_irrefl _) ?_ | with_reducible refine Ret.ite (fun _ => ?_) (fun _ => ?_) | with_reducible refine Ret.idx ?_ ?_ ?_ | with_reducible refine Ret.chk ?_ ?_ | with_reducible refine hn3 ?_ | with_reducible refine hn2 ?_ | with_reducible refine hn1 ?_ | with_reducible refine hn3 _ ?_ | with_reducible refine hn2 _ ?_ | with_reducible refine hn1 _ ?_ | with_reducible refine Ret.call (l34Lifts_eq h) ?_ | with_reducible refine Ret.some ?_))
      all_goals (try ((fail_if_success (with_reducible refine Ret.probe ?_)); grind [Disc]))
    · intro next hq
      (repeat' (first | with_reducible refine Ret.pos ‹_› ?_ | with_reducible refine Ret.neg ‹_› ?_ | with_reducible refine Ret.neg (Int.lt_irrefl _) ?_ | with_reducible refine Ret.ite (fun _ => ?_) (fun _ => ?_) | with_reducible refine Ret.idx ?_ ?_ ?_ | with_reducible refine Ret.chk ?_ ?_ | with_reducible refine hn3 ?_ | with_reducible refine hn2 ?_ | with_reducible refine hn1 ?_ | with_reducible refine hn3 _ ?_ | with_reducible refine hn2 _ ?_ | with_reducible refine hn1 _ ?_ | with_reducible refine Ret.some ?_))
      all_goals (try ((fail_if_success (with_reducible refine Ret.probe ?_)); grind))
  · intro next hp
    (repeat' (first | with_reducible refine Ret.pos ‹_› ?_ | with_reducible refine Ret.neg ‹_› ?_ | with_reducible refine Ret.neg (Int.lt_irrefl _) ?_ | with_reducible refine Ret.ite (fun _ => ?_) (fun _ => ?_) | with_reducible refine Ret.idx ?_ ?_ ?_ | with_reducible refine Ret.chk ?_ ?_ | with_reducible refine hn3 ?_ | with_reducible refine hn2 ?_ | with_reducible refine hn1 ?_ | with_reducible refine hn3 _ ?_ | with_reducible refine hn2 _ ?_ | with_reducible refine hn1 _ ?_ | with_reducible refine Ret.some ?_))
    all_goals (try ((fail_if_success (with_reducible refine Ret.probe ?_)); grind [Disc]))

theorem over_eq {f : XFunctor} (h : Flat f) {x t : Int} : M.impl_Functor_over f x t = some (lifts f x t) := by
  apply Ret.eq
  obtain ⟨h1, h2, h3, h4, h5⟩ := h
  unfold M.impl_Functor_over
  refine Ret.call (outOf_eq h1 x) ?_
  have hle := fil_length_le (f.Source.From.length : Int) fun s => el f.Source.From s == x
  have hin : ∀ y ∈ fil (f.Source.From.length : Int) fun s => el f.Source.From s == x, 0 ≤ y ∧ y < (f.Source.From.length : Int) := fun y hy => ⟨(fil_mem.1 hy).1, (fil_mem.1 hy).2.1⟩
  have hfin : lifts f x t = (fil (f.Source.From.length : Int) fun s => el f.Source.From s == x).filter fun s => el f.Arrows s == t := (fil_filter _ _ _).symm
  rw [hfin]
  generalize (fil (f.Source.From.length : Int) fun s => el f.Source.From s == x) = l at hle hin
  refine Ret.acc (l.length : Int) (fun i a => a = (l.take i.toNat).filter fun s => el f.Arrows s == t) (by omega) (by omega) rfl ?_ ?_
  · rintro i a next hi0 hi1 rfl hn1
    have hle2 := List.length_filter_le (fun s => el f.Arrows s == t) (l.take i.toNat)
    rw [List.length_take] at hle2
    have hx := hin _ (el_mem hi0 hi1)
    dsimp only
    simp only [decide_eq_true_eq, beq_iff_eq]
    (repeat' (first | with_reducible refine Ret.pos ‹_› ?_ | with_reducible refine Ret.neg ‹_› ?_ | with_reducible refine Ret.neg (Int.lt_irrefl _) ?_ | with_reducible refine Ret.ite (fun _ => ?_) (fun _ => ?_) | with_reducible refine Ret.idx ?_ ?_ ?_ | with_reducible refine Ret.chk ?_ ?_ | with_reducible refine hn3 ?_ | with_reducible refine hn2 ?_ | with_reducible refine hn1 ?_ | with_reducible refine hn3 _ ?_ | with_reducible refine hn2 _ ?_ | with_reducible refine hn1 _ ?_ | with_reducible refine Ret.some ?_))
    · exact hi0
    · exact hi1
    · exact hx.1
    · omega
    · unfold lim; simp only [List.length_cons, List.length_nil]; omega
    · rw [take_succ_el hi0 hi1]; simp [*]
    · rw [take_succ_el hi0 hi1]; simp [*]
  · rintro a next rfl
    dsimp only
    simp only [decide_eq_true_eq]
    rw [if_neg (by omega)]
    refine Ret.some ?_
    simp

theorem isDiscreteOpfibration_eq {f : XFunctor} (h : Flat f) : M.impl_Functor_isDiscreteOpfibration f = some (decide (Disc f)) := by
  apply Ret.ask
  unfold M.impl_Functor_isDiscreteOpfibration
  obtain ⟨h1, h2, h3, h4, h5⟩ := id h
  simp only [decide_eq_true_eq, bne_iff_ne, ne_eq]
  refine Ret.all (f.Objects.length : Int) (fun x => ∀ t, 0 ≤ t → t < (f.Target.From.length : Int) → el f.Target.From t = el f.Objects x → ((lifts f x t).length : Int) = 1) (by omega) (by omega) ?_ ?_
  · intro x next hx0 hx1 hp hn1
    (repeat' (first | with_reducible refine Ret.pos ‹_› ?_ | with_reducible refine Ret.neg ‹_› ?_ | with_reducible refine Ret.neg (Int.lt_irrefl _) ?_ | with_reducible refine Ret.ite (fun _ => ?_) (fun _ => ?_) | with_reducible refine Ret.idx ?_ ?_ ?_ | with_reducible refine Ret.chk ?_ ?_ | with_reducible refine hn3 ?_ | with_reducible refine hn2 ?_ | with_reducible refine hn1 ?_ | with_reducible refine hn3 _ ?_ | with_reducible refine hn2 _ ?_ | with_reducible refine hn1 _ ?_ | with_reducible refine Ret.call (outOf_eq h2 _) ?_ | with_reducible refine Ret.some ?_))
    all_goals (try ((fail_if_success (with_reducible refine Ret.probe ?_)); grind))
    have hle := fil_length_le (f.Target.From.length : Int) fun s => el f.Target.From s == el f.Objects x
    have hmem : ∀ t, t ∈ (fil (f.Target.From.length : Int) fun s => el f.Target.From s == el f.Objects x) ↔ 0 ≤ t ∧ t < (f.Target.From.length : Int) ∧ el f.Target.From t = el f.Objects x := by
      intro t; rw [fil_mem, beq_iff_eq]
    generalize (fil (f.Target.From.length : Int) fun s => el f.Target.From s == el f.Objects x) = l at hle hmem
    refine Ret.all (l.length : Int) (fun k => ((lifts f x (el l k)).length : Int) = 1) (by omega) (by omega) ?_ ?_
    · intro k next hk0 hk1 hq hn2
      have hk := (hmem _).1 (el_mem hk0 hk1)
      have hno : ¬ ((lifts f x (el l k)).length : Int) = 1 → ¬ Disc f := fun hx hd => hx (hd x _ hx0 (by omega) hk.1 hk.2.1 hk.2.2)
      (repeat' (first | with_reducible refine Ret.pos ‹_› ?_ | with_reducible refine Ret.neg ‹_› ?_ | with_reducible refine Ret.neg (Int.lt_irrefl _) ?_ | with_reducible refine Ret.ite (fun _ => ?_) (fun _ => ?_) | with_reducible refine Ret.idx ?_ ?_ ?_ | with_reducible refine Ret.chk ?_ ?_ | with_reducible refine hn3 ?_ | with_reducible refine hn2 ?_ | with_reducible refine hn1 ?_ | with_reducible refine hn3 _ ?_ | with_reducible refine hn2 _ ?_ | with_reducible refine hn1 _ ?_ | with_reducible refine Ret.call (over_eq h) ?_ | with_reducible refine Ret.some ?_))
      all_goals (try ((fail_if_success (with_reducible refine Ret.probe ?_)); grind))
    · intro next hq
      (repeat' (first | with_reducible refine Ret.pos ‹_› ?_ | with_reducible refine Ret.neg ‹_› ?_ | with_reducible refine Ret.neg (Int.lt_irrefl _) ?_ | with_reducible refine Ret.ite (fun _ => ?_) (fun _ => ?_) | with_reducible refine Ret.idx ?_ ?_ ?_ | with_reducible refine Ret.chk ?_ ?_ | with_reducible refine hn3 ?_ | with_reducible refine hn2 ?_ | with_reducible refine hn1 ?_ | with_reducible refine hn3 _ ?_ | with_reducible refine hn2 _ ?_ | with_reducible refine hn1 _ ?_ | with_reducible refine Ret.some ?_))
      intro t ht0 ht1 he
      obtain ⟨k, hk0, hk1, rfl⟩ := mem_el ((hmem t).2 ⟨ht0, ht1, he⟩)
      exact hq k hk0 hk1
  · intro next hp
    (repeat' (first | with_reducible refine Ret.pos ‹_› ?_ | with_reducible refine Ret.neg ‹_› ?_ | with_reducible refine Ret.neg (Int.lt_irrefl _) ?_ | with_reducible refine Ret.ite (fun _ => ?_) (fun _ => ?_) | with_reducible refine Ret.idx ?_ ?_ ?_ | with_reducible refine Ret.chk ?_ ?_ | with_reducible refine hn3 ?_ | with_reducible refine hn2 ?_ | with_reducible refine hn1 ?_ | with_reducible refine hn3 _ ?_ | with_reducible refine hn2 _ ?_ | with_reducible refine hn1 _ ?_ | with_reducible refine Ret.some ?_))
    all_goals (try ((fail_if_success (with_reducible refine Ret.probe ?_)); grind [Disc]))


/-! ### the law -/
abbrev overL (f : XFunctor) (x : Int) : List Int := fil (f.Objects.length : Int) fun s => el f.Objects s == x
noncomputable def fibA (f : XFunctor) (t : Int) : List Int := (overL f (el f.Target.From t)).map fun s => indexL (overL f (el f.Target.To t)) (el f.Source.To (el (lifts f s t) 0))
noncomputable def fibG (f : XFunctor) : XSetFunctor := ⟨f.Target, tab f.Target.Objects fun x => ((overL f x).length : Int), tab (f.Target.From.length : Int) fun t => fibA f t⟩

theorem l34Over_eq {f : XFunctor} (h : Flat f) (x : Int) : M.spec_l34Over f x = some (overL f x) := by
  apply Ret.eq
  have so := h.so
  unfold M.spec_l34Over
  refine Ret.acc (f.Objects.length : Int) (fun i a => a = fil i fun s => el f.Objects s == x) (by omega) (by omega) rfl ?_ ?_
  · rintro i a next hi0 hi1 rfl hn1
    have hle := fil_length_le i fun s => el f.Objects s == x
    dsimp only
    simp only [decide_eq_true_eq, beq_iff_eq]
    (repeat' (first | with_reducible refine Ret.pos ‹_› ?_ | with_reducible refine Ret.neg ‹_› ?_ | with_reducible refine Ret.neg (Int.lt_irrefl _) ?_ | with_reducible refine Ret.ite (fun _ => ?_) (fun _ => ?_) | with_reducible refine Ret.idx ?_ ?_ ?_ | with_reducible refine Ret.chk ?_ ?_ | with_reducible refine hn3 ?_ | with_reducible refine hn2 ?_ | with_reducible refine hn1 ?_ | with_reducible refine hn3 _ ?_ | with_reducible refine hn2 _ ?_ | with_reducible refine hn1 _ ?_ | with_reducible refine Ret.some ?_))
    · exact hi0
    · exact hi1
    · unfold lim; simp only [List.length_cons, List.length_nil]; omega
    · rw [fil_succ _ hi0]; simp [*]
    · rw [fil_succ _ hi0]; simp [*]
  · rintro a next rfl
    dsimp only
    simp only [decide_eq_true_eq]
    rw [if_neg (by omega)]
    exact Ret.some rfl
theorem objectsOver_eq {f : XFunctor} (h : Flat f) (x : Int) : M.impl_Functor_objectsOver f x = some (overL f x) := l34Over_eq h x

theorem overL_len {f : XFunctor} (_ : Flat f) (x : Int) : ((overL f x).length : Int) ≤ (f.Objects.length : Int) := by
  have h2 : (overL f x).length ≤ (f.Objects.length : Int).toNat := fil_length_le _ _
  omega

theorem fib_facts {f : XFunctor} (h : Flat f) (_ : IsFun f) (hd : Disc f) {t : Int} (t0 : 0 ≤ t) (t1 : t < (f.Target.From.length : Int)) {i : Int} (i0 : 0 ≤ i) (i1 : i < ((overL f (el f.Target.From t)).length : Int)) :
    ((lifts f (el (overL f (el f.Target.From t)) i) t).length : Int) = 1 ∧ 0 ≤ el (lifts f (el (overL f (el f.Target.From t)) i) t) 0 ∧ el (lifts f (el (overL f (el f.Target.From t)) i) t) 0 < (f.Source.From.length : Int) := by
  have lo := h.lo
  have m := fil_mem.1 (el_mem i0 i1)
  have e : el f.Objects (el (overL f (el f.Target.From t)) i) = el f.Target.From t := by simpa using m.2.2
  have e2 : el (overL f (el f.Target.From t)) i < (f.Objects.length : Int) := m.2.1
  have h1 := hd (el (overL f (el f.Target.From t)) i) t m.1 (by omega) t0 t1 e.symm
  have m2 := fil_mem.1 (el_mem (l := lifts f (el (overL f (el f.Target.From t)) i) t) (i := 0) (by omega) (by omega))
  exact ⟨h1, m2.1, m2.2.1⟩

theorem l34Sets_eq {f : XFunctor} (sf : SmallF f) (h : Flat f) (hf : IsFun f) (hd : Disc f) : M.spec_l34Sets f = some (fibG f) := by
  apply Ret.eq
  have so := h.so
  have hT := hf.2.1.1.shp
  have n0 := hT.n0
  have n8 := hT.n8
  have m40 := hT.m40
  have lto := hT.lto
  have lts := hf.1.1.shp.lto
  unfold M.spec_l34Sets
  refine Ret.call (l02Own_eq sf.s2) ?_
  refine Ret.loop f.Target.Objects (fun i s => s = (tab i fun x => overL f x, tab i fun x => ((overL f x).length : Int), i)) n0 (by omega) rfl ?_ ?_
  · rintro i s next i0 i1 rfl hn
    dsimp only
    rw [if_pos (decide_eq_true i1)]
    have l1 : ((tab i fun x => overL f x).length : Int) = i := by rw [tab_length]; omega
    have l2 : ((tab i fun x => ((overL f x).length : Int)).length : Int) = i := by rw [tab_length]; omega
    refine Ret.call (l34Over_eq h i) (Ret.chk (by unfold lim; omega) ?_)
    have e1 := (tab_succ (fun x => overL f x) i0).symm
    rw [e1]
    refine Ret.idx i0 (by rw [tab_length]; omega) ?_
    rw [el_tab i0 (by omega)]
    refine Ret.chk (by unfold lim; simp only [List.length_cons, List.length_nil]; omega) (hn _ ?_)
    rw [wrap_in (by omega) (by omega)]
    exact Prod.ext rfl (Prod.ext (tab_succ (fun x => ((overL f x).length : Int)) i0).symm rfl)
  · rintro s next rfl
    dsimp only
    rw [if_neg (by simp)]
    refine push_loop (n := (f.Target.From.length : Int)) (F := fun t => fibA f t) (by omega) (by omega) ?_ ?_
    · intro t next t0 t1 hl hn
      dsimp only
      rw [if_pos (decide_eq_true t1)]
      have x1 := hT.from_in t t0 t1
      have x2 := hT.to_in t t0 t1
      have g1 := overL_len h (el f.Target.From t)
      have g2 := overL_len h (el f.Target.To t)
      refine Ret.idx t0 t1 (Ret.idx t0 (by omega) ?_)
      refine map_loop (l := overL f (el f.Target.From t)) (F := fun s => indexL (overL f (el f.Target.To t)) (el f.Source.To (el (lifts f s t) 0))) (by unfold Small; omega) ?_ ?_
      · intro i s next i0 i1 hs hn2
        dsimp only
        refine Ret.idx x1.1 (by rw [tab_length]; omega) ?_
        rw [el_tab x1.1 x1.2, if_pos (decide_eq_true i1)]
        refine Ret.idx x2.1 (by rw [tab_length]; omega) ?_
        rw [el_tab x2.1 x2.2]
        obtain ⟨h1, h2, h3⟩ := fib_facts h hf hd t0 t1 i0 i1
        refine Ret.idx i0 i1 (Ret.call (l34Lifts_eq h) (Ret.idx (Int.le_refl 0) (by omega) (Ret.idx h2 (by omega) (Ret.call (l01Index_eq (by unfold Small; omega) _) (Ret.chk ?_ hn2)))))
        unfold lim; simp only [List.length_cons, List.length_nil]; omega
      · intro next
        dsimp only
        refine Ret.idx x1.1 (by rw [tab_length]; omega) ?_
        rw [el_tab x1.1 x1.2, if_neg (by simp)]
        exact Ret.chk (by unfold lim; omega) hn
    · intro next
      dsimp only
      rw [if_neg (by simp)]
      exact Ret.some rfl

theorem fibG_small {f : XFunctor} (sf : SmallF f) (h : Flat f) (hf : IsFun f) : SmallG (fibG f) := by
  have so := h.so
  have hT := hf.2.1.1.shp
  have n8 := hT.n8
  have m40 := hT.m40
  refine ⟨sf.s2, ?_, ?_, ?_⟩
  · show ((tab f.Target.Objects fun x => ((overL f x).length : Int)).length : Int) ≤ _
    rw [tab_length]; omega
  · show ((tab (f.Target.From.length : Int) fun t => fibA f t).length : Int) ≤ _
    rw [tab_length]; omega
  · intro r hr
    obtain ⟨i, i0, i1, rfl⟩ := mem_el (show r ∈ tab (f.Target.From.length : Int) fun t => fibA f t from hr)
    rw [tab_length] at i1
    rw [el_tab i0 (by omega)]
    unfold fibA Small
    rw [List.length_map]
    have := overL_len h (el f.Target.From i)
    omega

theorem impl_fib {f : XFunctor} (sf : SmallF f) (h : Flat f) (hf : IsFun f) (hd : Disc f) : M.impl_FibreSets f = some (fibG f, 0) := by
  apply Ret.eq
  have so := h.so
  have hT := hf.2.1.1.shp
  have n0 := hT.n0
  have n8 := hT.n8
  have m40 := hT.m40
  have lto := hT.lto
  have lts := hf.1.1.shp.lto
  unfold M.impl_FibreSets
  refine Ret.call (isFunctor_eq sf) ?_
  rw [if_pos (decide_eq_true hf)]
  refine Ret.call (isDiscreteOpfibration_eq h) ?_
  rw [if_pos (decide_eq_true hd)]
  refine Ret.call (copy_eq sf.s2) ?_
  refine push_loop (n := f.Target.Objects) (F := fun x => ((overL f x).length : Int)) n0 (by omega) ?_ ?_
  · intro i next i0 i1 hl hn
    dsimp only
    rw [if_pos (decide_eq_true i1)]
    refine Ret.call (objectsOver_eq h i) (Ret.chk ?_ hn)
    unfold lim; simp only [List.length_cons, List.length_nil]; omega
  · intro next
    dsimp only
    rw [if_neg (by simp)]
    refine push_loop (n := (f.Target.From.length : Int)) (F := fun t => fibA f t) (by omega) (by omega) ?_ ?_
    · intro t next t0 t1 hl hn
      dsimp only
      rw [if_pos (decide_eq_true t1)]
      have g1 := overL_len h (el f.Target.From t)
      have g2 := overL_len h (el f.Target.To t)
      refine Ret.idx t0 (by omega) (Ret.call (objectsOver_eq h _) (Ret.idx t0 t1 (Ret.call (objectsOver_eq h _) ?_)))
      refine map_loop (l := overL f (el f.Target.From t)) (F := fun s => indexL (overL f (el f.Target.To t)) (el f.Source.To (el (lifts f s t) 0))) (by unfold Small; omega) ?_ ?_
      · intro i s next i0 i1 hs hn2
        dsimp only
        rw [if_pos (decide_eq_true i1)]
        obtain ⟨h1, h2, h3⟩ := fib_facts h hf hd t0 t1 i0 i1
        refine Ret.idx i0 i1 (Ret.call (over_eq h) (Ret.idx (Int.le_refl 0) (by omega) (Ret.idx h2 (by omega) (Ret.call (index_eq (by unfold Small; omega) _) (Ret.chk ?_ hn2)))))
        unfold lim; simp only [List.length_cons, List.length_nil]; omega
      · intro next
        dsimp only
        rw [if_neg (by simp)]
        exact Ret.chk (by unfold lim; omega) hn
    · intro next
      dsimp only
      rw [if_neg (by simp)]
      exact Ret.some rfl

theorem isFun_flat {f : XFunctor} (sf : SmallF f) (hf : IsFun f) : Flat f := ⟨sf.s1.s1, sf.s2.s1, hf.2.2.la, hf.2.2.lo, sf.s3⟩

theorem FibreSets_both {f : XFunctor} (sf : SmallF f) : ∃ r w, SmallG r ∧ M.spec_FibreSets f = some (r, w) ∧ M.impl_FibreSets f = some (r, w) := by
  by_cases hf : IsFun f
  · have h := isFun_flat sf hf
    by_cases hd : Disc f
    · refine ⟨fibG f, 0, fibG_small sf h hf, ?_, impl_fib sf h hf hd⟩
      unfold M.spec_FibreSets
      rw [l06Is_eq sf, decide_eq_true hf]
      simp only [Option.bind_some, if_true]
      rw [l34Discrete_eq h, decide_eq_true hd]
      simp only [Option.bind_some, if_true]
      rw [l34Sets_eq sf h hf hd]; rfl
    · refine ⟨zeroG, 5, zeroG_small, ?_, ?_⟩
      · unfold M.spec_FibreSets
        rw [l06Is_eq sf, decide_eq_true hf]
        simp only [Option.bind_some, if_true]
        rw [l34Discrete_eq h, decide_eq_false hd]; rfl
      · unfold M.impl_FibreSets
        rw [isFunctor_eq sf, decide_eq_true hf]
        simp only [Option.bind_some, if_true]
        rw [isDiscreteOpfibration_eq h, decide_eq_false hd]; rfl
  · refine ⟨zeroG, 1, zeroG_small, ?_, ?_⟩
    · unfold M.spec_FibreSets
      rw [l06Is_eq sf, decide_eq_false hf]; rfl
    · unfold M.impl_FibreSets
      rw [isFunctor_eq sf, decide_eq_false hf]; rfl

theorem law_FibreSets {a0 : XFunctor} (h0 : R.XFunctor a0) : M.laws_FnExactFibreSets a0 = some true := by
  unfold M.laws_FnExactFibreSets
  obtain ⟨v0, e0, hv0⟩ := szFunctor_r (n := 1048576) (by decide) (by decide) (fitsF h0)
  rw [e0, Option.bind_some]
  rcases hv0 with ⟨z0, _⟩ | ⟨l0, u0, s0⟩
  · rw [if_pos (decide_eq_true z0)]
  · rw [if_neg (fun h => absurd (of_decide_eq_true h) (by omega))]
    rw [toFunctor_eq s0, Option.bind_some]
    obtain ⟨g0, w, hg0, es, ei⟩ := FibreSets_both s0
    rw [es, ei]
    simp only [Option.bind_some]
    rw [eqSetFunctor_refl hg0, eqFunctor_refl s0]
    obtain ⟨n0, x0, p0, q0, c0, d0, _⟩ := mh_F s0 1 (by omega) (by omega)
    obtain ⟨n1, x1, p1, q1, c1, d1, _⟩ := mh_G hg0 1 (by omega) (by omega)
    simp only [Option.bind_some, bne_self_eq_false, Bool.false_eq_true, if_false, if_true, decide_eq_true_eq, c0, c1, d1]
    rw [if_neg (by omega), if_neg (by omega)]


end Go.Gx
