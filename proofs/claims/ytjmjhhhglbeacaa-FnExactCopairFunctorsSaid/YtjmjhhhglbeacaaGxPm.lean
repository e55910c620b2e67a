/- Plain laws: what is marked is held. -/
import Derived.Test.YtjmjhhhglbeacaaGxPf
namespace Go.Gx
set_option maxHeartbeats 1000000

theorem fitsC {c : XCategory} (h : R.XCategory c) : FitsC c := ⟨h.2.1.1, h.2.2.1.1, h.2.2.2.1.1, h.2.2.2.2.1, fun r hr => (h.2.2.2.2.2 r hr).1⟩
theorem fitsF {f : XFunctor} (h : R.XFunctor f) : FitsF f := ⟨fitsC h.1, fitsC h.2.1, h.2.2.1.1, h.2.2.2.1⟩

def zeroF : XFunctor := ⟨⟨0, [], [], [], []⟩, ⟨0, [], [], [], []⟩, [], []⟩
theorem zeroC_small : SmallC ⟨0, [], [], [], []⟩ := ⟨by simp, by simp, by simp, by simp, by simp⟩
theorem zeroF_small : SmallF zeroF := ⟨zeroC_small, zeroC_small, by simp [zeroF], by simp [zeroF]⟩

/-- A table of composites, asked only where two arrows meet. -/
theorem table_eq {c : XCategory} {g : Int → Int → Option Int} {v : Int → Int → Int} (hm : (c.From.length : Int) ≤ 40) (ht : (c.To.length : Int) = (c.From.length : Int))
    (hg : ∀ i j, 0 ≤ i → i < (c.From.length : Int) → 0 ≤ j → j < (c.From.length : Int) → el c.To i = el c.From j → g i j = some (v i j)) :
    M.impl_Category_table c g = some ⟨c.Objects, c.From, c.To, c.Identity, tab (c.From.length : Int) fun i => tab (c.From.length : Int) fun j => if el c.To i = el c.From j then v i j else -1⟩ := by
  apply Ret.eq
  unfold M.impl_Category_table M.impl_Category_arrows
  simp only [Option.bind_some]
  refine Ret.chk ⟨by omega, by unfold lim; omega⟩ ?_
  simp only [List.length_replicate]
  have e1 : (((c.From.length : Int).toNat : Nat) : Int) = (c.From.length : Int) := by omega
  simp only [e1]
  refine Ret.acc (c.From.length : Int) (fun i a => a = tab (c.From.length : Int) fun k => if k < i then (tab (c.From.length : Int) fun j => if el c.To k = el c.From j then v k j else -1) else []) (by omega) (by omega) ?_ ?_ ?_
  · rw [rep_tab]; apply tab_congr; intro j h0 h1; rw [if_neg (by omega)]
  · rintro i a next hi0 hi1 rfl hn1
    dsimp only
    simp only [decide_eq_true_eq]
    rw [if_pos hi1, set_tab hi0, rep_tab]
    refine Ret.idx hi0 (by rw [tab_length]; omega) ?_
    refine Ret.idx hi0 (by rw [tab_length]; omega) ?_
    rw [el_tab hi0 hi1]
    simp only [if_true, tab_length, e1]
    refine Ret.acc (c.From.length : Int) (fun j a => a = tab (c.From.length : Int) fun k => if k = i then (tab (c.From.length : Int) fun l => if l < j then (if el c.To k = el c.From l then v k l else -1) else 0) else if k < i then (tab (c.From.length : Int) fun j => if el c.To k = el c.From j then v k j else -1) else []) (by omega) (by omega) ?_ ?_ ?_
    · apply tab_congr
      intro k hk0 hk1
      by_cases hk : k = i
      · simp only [hk, if_true]
        apply tab_congr; intro l hl0 hl1; rw [if_neg (by omega)]
      · simp only [if_neg hk]
    · rintro j a next' hj0 hj1 rfl hn2
      dsimp only
      rw [if_pos hj1]
      refine Ret.idx hi0 (by rw [tab_length]; omega) ?_
      rw [el_tab hi0 hi1]
      simp only [if_true]
      refine Ret.idx hj0 (by rw [tab_length]; omega) ?_
      refine Ret.idx hi0 (by omega) (Ret.idx hj0 hj1 ?_)
      refine Ret.ite (fun hb => ?_) (fun hb => ?_)
      · have hb' : el c.To i = el c.From j := by simpa using hb
        simp only [set_tab hi0, set_tab hj0]
        refine Ret.idx hi0 (by rw [tab_length]; omega) ?_
        rw [el_tab hi0 hi1]
        simp only [if_true]
        refine Ret.call (hg i j hi0 hi1 hj0 hj1 hb') ?_
        refine Ret.idx hj0 (by rw [tab_length]; omega) (hn2 _ ?_)
        simp only [set_tab hj0]
        apply tab_congr
        intro k hk0 hk1
        by_cases hk : k = i
        · simp only [hk, if_true]
          apply tab_congr; intro l hl0 hl1
          by_cases hl : l = j
          · subst hl; rw [if_pos rfl, if_pos (show l < l + 1 by omega), if_pos hb']
          · simp only [if_neg hl]
            by_cases hlj : l < j
            · rw [if_pos hlj, if_pos (show l < j + 1 by omega)]
            · rw [if_neg hlj, if_neg (show ¬ l < j + 1 by omega)]
        · simp only [if_neg hk]
      · have hb' : ¬ el c.To i = el c.From j := by simpa using hb
        simp only [set_tab hi0, set_tab hj0]
        refine hn2 _ ?_
        apply tab_congr
        intro k hk0 hk1
        by_cases hk : k = i
        · simp only [hk, if_true]
          apply tab_congr; intro l hl0 hl1
          by_cases hl : l = j
          · subst hl; rw [if_pos rfl, if_pos (show l < l + 1 by omega), if_neg hb']
          · simp only [if_neg hl]
            by_cases hlj : l < j
            · rw [if_pos hlj, if_pos (show l < j + 1 by omega)]
            · rw [if_neg hlj, if_neg (show ¬ l < j + 1 by omega)]
        · simp only [if_neg hk]
    · rintro a next' rfl
      dsimp only
      rw [if_neg (by omega)]
      refine hn1 _ ?_
      apply tab_congr
      intro k hk0 hk1
      by_cases hk : k = i
      · subst hk
        simp only [if_true]
        rw [if_pos (by omega)]
        apply tab_congr; intro l hl0 hl1; rw [if_pos (by omega)]
      · simp only [if_neg hk]
        by_cases hlt : k < i
        · rw [if_pos hlt, if_pos (by omega)]
        · rw [if_neg hlt, if_neg (by omega)]
  · rintro a next rfl
    dsimp only
    simp only [decide_eq_true_eq]
    rw [if_neg (by omega)]
    refine Ret.some ?_
    congr 1
    apply tab_congr
    intro k hk0 hk1
    rw [if_pos hk1]

theorem mark_S {l : List Int} (h : Small l) {k : Int} (h0 : 0 ≤ k) (h1 : k ≤ 4611686018427387904) : M.laws_markInt64S l k = some (k + (l.length : Int), tab (l.length : Int) fun i => k + i) := by
  apply Ret.eq
  unfold M.laws_markInt64S
  refine Ret.loop (l.length : Int) (fun i s => s = (tab (l.length : Int) fun j => if j < i then k + j else el l j, k + i, i)) (by omega) (by omega) ?_ ?_ ?_
  · refine Prod.ext ?_ (Prod.ext ?_ rfl)
    · conv => lhs; rw [← tab_el l]
      dsimp only; apply tab_congr; intro j j0 j1; rw [if_neg (by omega)]
    · show k = k + 0
      omega
  · rintro i s next hi0 hi1 rfl hn
    dsimp only
    have e1 : (((l.length : Int).toNat : Nat) : Int) = (l.length : Int) := by omega
    simp only [decide_eq_true_eq, tab_length, e1]
    rw [if_pos hi1]
    refine Ret.idx hi0 (by rw [tab_length]; omega) (hn _ ?_)
    rw [set_tab hi0, wrap_in (by omega) (by omega), wrap_in (by omega) (by omega)]
    refine Prod.ext ?_ (Prod.ext ?_ rfl)
    · dsimp only; apply tab_congr; intro j j0 j1
      by_cases hj : j = i
      · subst hj; rw [if_pos rfl, if_pos (by omega)]
      · rw [if_neg hj]
        by_cases hlt : j < i
        · rw [if_pos hlt, if_pos (by omega)]
        · rw [if_neg hlt, if_neg (by omega)]
    · show k + i + 1 = k + (i + 1)
      omega
  · rintro s next rfl
    dsimp only
    have e1 : (((l.length : Int).toNat : Nat) : Int) = (l.length : Int) := by omega
    simp only [decide_eq_true_eq, tab_length, e1]
    rw [if_neg (by omega)]
    refine Ret.some (Prod.ext rfl ?_)
    dsimp only; apply tab_congr; intro j j0 j1; rw [if_pos j1]

theorem held_S {n k : Int} (hn : 0 ≤ n) (hn2 : n ≤ 1048576) (h0 : 0 ≤ k) (h1 : k ≤ 4611686018427387904) : M.laws_heldInt64S (tab n fun i => k + i) k = some (k + n) := by
  apply Ret.eq
  unfold M.laws_heldInt64S
  have e1 : ((n.toNat : Nat) : Int) = n := by omega
  refine Ret.loop n (fun i s => s = (k + i, i)) (by omega) (by omega) ?_ ?_ ?_
  · exact Prod.ext (show k = k + 0 by omega) rfl
  · rintro i s next hi0 hi1 rfl hnx
    dsimp only
    simp only [decide_eq_true_eq, tab_length, e1]
    rw [if_pos hi1]
    refine Ret.idx hi0 (by rw [tab_length]; omega) ?_
    rw [el_tab hi0 hi1]
    simp only [bne_self_eq_false, Bool.false_eq_true, if_false]
    refine hnx _ ?_
    rw [wrap_in (by omega) (by omega), wrap_in (by omega) (by omega)]
    exact Prod.ext (show k + i + 1 = k + (i + 1) by omega) rfl
  · rintro s next rfl
    dsimp only
    simp only [decide_eq_true_eq, tab_length, e1]
    rw [if_neg (by omega)]
    exact Ret.some rfl

/-- How much is marked before row i. -/
def offs (l : List (List Int)) (i : Int) : Int := ((l.take i.toNat).map fun r => (r.length : Int)).sum
theorem offs_zero (l : List (List Int)) : offs l 0 = 0 := rfl
theorem offs_succ {l : List (List Int)} {i : Int} (h0 : 0 ≤ i) (h1 : i < (l.length : Int)) : offs l (i + 1) = offs l i + ((el l i).length : Int) := by
  unfold offs
  rw [take_succ_el h0 h1, List.map_append, List.sum_append]
  simp
theorem sum_le : ∀ m : List (List Int), (∀ r ∈ m, Small r) → 0 ≤ (m.map fun r => (r.length : Int)).sum ∧ (m.map fun r => (r.length : Int)).sum ≤ (m.length : Int) * 1048576
  | [], _ => by simp
  | r :: m, h => by
    have h1 := sum_le m fun x hx => h x (by simp [hx])
    have h2 := h r (by simp)
    simp only [List.map_cons, List.sum_cons, List.length_cons]
    omega
theorem offs_le {l : List (List Int)} (hr : ∀ r ∈ l, Small r) {i : Int} (h0 : 0 ≤ i) : 0 ≤ offs l i ∧ offs l i ≤ i * 1048576 := by
  have h1 := sum_le (l.take i.toNat) fun r hx => hr r (List.mem_of_mem_take hx)
  unfold offs
  have h2 : ((l.take i.toNat).length : Int) ≤ i := by rw [List.length_take]; omega
  omega

theorem mark_SS {l : List (List Int)} (h : Small l) (hr : ∀ r ∈ l, Small r) {k : Int} (h0 : 0 ≤ k) (h1 : k ≤ 2305843009213693952) :
    M.laws_markInt64SS l k = some (k + offs l (l.length : Int), tab (l.length : Int) fun j => tab ((el l j).length : Int) fun t => k + offs l j + t) := by
  apply Ret.eq
  unfold M.laws_markInt64SS
  refine Ret.loop (l.length : Int) (fun i s => s = (tab (l.length : Int) fun j => if j < i then (tab ((el l j).length : Int) fun t => k + offs l j + t) else el l j, k + offs l i, i)) (by omega) (by omega) ?_ ?_ ?_
  · refine Prod.ext ?_ (Prod.ext ?_ rfl)
    · conv => lhs; rw [← tab_el l]
      dsimp only; apply tab_congr; intro j j0 j1; rw [if_neg (by omega)]
    · show k = k + 0
      omega
  · rintro i s next hi0 hi1 rfl hn
    dsimp only
    have e1 : (((l.length : Int).toNat : Nat) : Int) = (l.length : Int) := by omega
    simp only [decide_eq_true_eq, tab_length, e1]
    rw [if_pos hi1]
    refine Ret.idx hi0 (by rw [tab_length]; omega) ?_
    rw [el_tab hi0 hi1, if_neg (by omega)]
    have ho := offs_le hr hi0
    refine Ret.call (mark_S (hr _ (el_mem hi0 hi1)) (by omega) (by omega)) (hn _ ?_)
    rw [set_tab hi0, wrap_in (by omega) (by omega)]
    refine Prod.ext ?_ (Prod.ext ?_ rfl)
    · dsimp only; apply tab_congr; intro j j0 j1
      by_cases hj : j = i
      · subst hj; rw [if_pos rfl, if_pos (by omega)]
      · rw [if_neg hj]
        by_cases hlt : j < i
        · rw [if_pos hlt, if_pos (by omega)]
        · rw [if_neg hlt, if_neg (by omega)]
    · show k + offs l i + ((el l i).length : Int) = k + offs l (i + 1)
      rw [offs_succ hi0 hi1]; omega
  · rintro s next rfl
    dsimp only
    have e1 : (((l.length : Int).toNat : Nat) : Int) = (l.length : Int) := by omega
    simp only [decide_eq_true_eq, tab_length, e1]
    rw [if_neg (by omega)]
    refine Ret.some (Prod.ext rfl ?_)
    dsimp only; apply tab_congr; intro j j0 j1; rw [if_pos j1]

theorem held_SS {l : List (List Int)} (h : Small l) (hr : ∀ r ∈ l, Small r) {k : Int} (h0 : 0 ≤ k) (h1 : k ≤ 2305843009213693952) :
    M.laws_heldInt64SS (tab (l.length : Int) fun j => tab ((el l j).length : Int) fun t => k + offs l j + t) k = some (k + offs l (l.length : Int)) := by
  apply Ret.eq
  unfold M.laws_heldInt64SS
  have e1 : (((l.length : Int).toNat : Nat) : Int) = (l.length : Int) := by omega
  refine Ret.loop (l.length : Int) (fun i s => s = (k + offs l i, i)) (by omega) (by omega) ?_ ?_ ?_
  · exact Prod.ext (show k = k + 0 by omega) rfl
  · rintro i s next hi0 hi1 rfl hnx
    dsimp only
    simp only [decide_eq_true_eq, tab_length, e1]
    rw [if_pos hi1]
    refine Ret.idx hi0 (by rw [tab_length]; omega) ?_
    rw [el_tab hi0 hi1]
    have ho := offs_le hr hi0
    have hs := hr _ (el_mem hi0 hi1)
    refine Ret.call (held_S (by omega) (by omega) (by omega) (by omega)) ?_
    rw [if_neg (by omega)]
    refine hnx _ ?_
    rw [wrap_in (by omega) (by omega)]
    refine Prod.ext ?_ rfl
    show k + offs l i + ((el l i).length : Int) = k + offs l (i + 1)
    rw [offs_succ hi0 hi1]; omega
  · rintro s next rfl
    dsimp only
    simp only [decide_eq_true_eq, tab_length, e1]
    rw [if_neg (by omega)]
    exact Ret.some rfl

/-- What is marked from k on is held, and counts alike; at most N marks. -/
def MH {α : Type} (N : Int) (mark : α → Int → Option (Int × α)) (held : α → Int → Option Int) (keep : α → α → Prop) (x : α) : Prop :=
  ∀ k, 0 ≤ k → k + N ≤ 2305843009213693952 → ∃ n x', 0 ≤ n ∧ n ≤ N ∧ mark x k = some (k + n, x') ∧ held x' k = some (k + n) ∧ keep x x'

theorem mh_S {l : List Int} (h : Small l) : MH 1048576 M.laws_markInt64S M.laws_heldInt64S (fun _ _ => True) l := by
  intro k h0 h1
  exact ⟨_, _, by omega, h, mark_S h h0 (by omega), held_S (by omega) h h0 (by omega), trivial⟩

theorem mh_SS {l : List (List Int)} (h : Small l) (hr : ∀ r ∈ l, Small r) : MH 1099511627776 M.laws_markInt64SS M.laws_heldInt64SS (fun _ _ => True) l := by
  intro k h0 h1
  have ho := offs_le hr (i := (l.length : Int)) (by omega)
  exact ⟨_, _, ho.1, by omega, mark_SS h hr h0 (by omega), held_SS h hr h0 (by omega), trivial⟩

theorem mh_C {c : XCategory} (h : SmallC c) : MH 1099514773504 M.laws_markCategory M.laws_heldCategory (fun x y => y.Objects = x.Objects) c := by
  intro k h0 h1
  obtain ⟨n1, l1, a1, b1, e1, f1, _⟩ := mh_S h.s1 k h0 (by omega)
  obtain ⟨n2, l2, a2, b2, e2, f2, _⟩ := mh_S h.s2 (k + n1) (by omega) (by omega)
  obtain ⟨n3, l3, a3, b3, e3, f3, _⟩ := mh_S h.s3 (k + n1 + n2) (by omega) (by omega)
  obtain ⟨n4, l4, a4, b4, e4, f4, _⟩ := mh_SS h.s4 h.s5 (k + n1 + n2 + n3) (by omega) (by omega)
  refine ⟨n1 + n2 + n3 + n4, ⟨c.Objects, l1, l2, l3, l4⟩, by omega, by omega, ?_, ?_, rfl⟩
  · unfold M.laws_markCategory
    simp only [e1, e2, e3, e4, Option.bind_some, Option.some.injEq, Prod.mk.injEq, and_true]
    omega
  · unfold M.laws_heldCategory
    simp only [f1, f2, f3, f4, Option.bind_some, decide_eq_true_eq]
    rw [if_neg (by omega), if_neg (by omega), if_neg (by omega), if_neg (by omega)]
    simp only [Option.some.injEq]; omega

theorem mh_F {f : XFunctor} (h : SmallF f) : MH 2199031644160 M.laws_markFunctor M.laws_heldFunctor (fun x y => y.Source.Objects = x.Source.Objects ∧ y.Target.Objects = x.Target.Objects) f := by
  intro k h0 h1
  obtain ⟨n1, l1, a1, b1, e1, f1, g1⟩ := mh_C h.s1 k h0 (by omega)
  obtain ⟨n2, l2, a2, b2, e2, f2, g2⟩ := mh_C h.s2 (k + n1) (by omega) (by omega)
  obtain ⟨n3, l3, a3, b3, e3, f3, _⟩ := mh_S h.s3 (k + n1 + n2) (by omega) (by omega)
  obtain ⟨n4, l4, a4, b4, e4, f4, _⟩ := mh_S h.s4 (k + n1 + n2 + n3) (by omega) (by omega)
  refine ⟨n1 + n2 + n3 + n4, ⟨l1, l2, l3, l4⟩, by omega, by omega, ?_, ?_, g1, g2⟩
  · unfold M.laws_markFunctor
    simp only [e1, e2, e3, e4, Option.bind_some, Option.some.injEq, Prod.mk.injEq]
    refine ⟨by omega, ?_⟩
    rw [← g1, ← g2]
  · unfold M.laws_heldFunctor
    simp only [f1, f2, f3, f4, Option.bind_some, decide_eq_true_eq]
    rw [if_neg (by omega), if_neg (by omega), if_neg (by omega), if_neg (by omega)]
    simp only [Option.some.injEq]; omega

end Go.Gx
