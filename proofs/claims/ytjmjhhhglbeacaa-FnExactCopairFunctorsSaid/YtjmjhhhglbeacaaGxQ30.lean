/- The law of CopairFunctors: sums of categories. -/
import Derived.Test.YtjmjhhhglbeacaaGxQf
import Derived.Test.YtjmjhhhglbeacaaGxQp
import Derived.Test.YtjmjhhhglbeacaaGxPq
import Derived.Test.YtjmjhhhglbeacaaGxy30M
namespace Go.Gx
open Classical
set_option maxHeartbeats 1000000

theorem push_more {α ρ : Type} {n m : Int} (n0 : 0 ≤ n) (h0 : 0 ≤ m) (hf : m < 4294967296) {F : Int → α} {step : List α × Int → (List α × Int → Option ρ) → Option ρ} {Q : ρ → Prop} {l : List α} (hl : l = tab n F)
    (hgo : ∀ (i : Int) next, 0 ≤ i → i < m → ((tab (n + i) F).length : Int) = n + i → Ret (next (tab (n + i) F ++ [F (n + i)], IntKind.i64.wrap (i + 1))) Q → Ret (step (tab (n + i) F, i) next) Q)
    (hend : ∀ next, Ret (step (tab (n + m) F, m) next) Q) : Ret (iter step fuel (l, 0)) Q := by
  refine Ret.acc m (fun i s => s = tab (n + i) F) h0 hf (by rw [hl, Int.add_zero]) ?_ ?_
  · rintro i s next i0 i1 rfl hn
    refine hgo i next i0 i1 (by rw [tab_length]; omega) (hn _ ?_)
    rw [← tab_succ F (by omega), Int.add_assoc]
  · rintro s next rfl
    exact hend next

def sJoin (n : Int) (a b : List Int) (k i : Int) : Int := if i < n then el a i else el b (i - n) + k
def sCell (a b : XCategory) (i j : Int) : Int :=
  if i < (a.From.length : Int) then (if j < (a.From.length : Int) then cmp a i j else -1)
  else (if j < (a.From.length : Int) then -1 else if 0 ≤ cmp b (i - (a.From.length : Int)) (j - (a.From.length : Int)) then cmp b (i - (a.From.length : Int)) (j - (a.From.length : Int)) + (a.From.length : Int) else cmp b (i - (a.From.length : Int)) (j - (a.From.length : Int)))
def sumC (a b : XCategory) : XCategory :=
  ⟨a.Objects + b.Objects, tab ((a.From.length : Int) + (b.From.length : Int)) (sJoin (a.From.length : Int) a.From b.From a.Objects), tab ((a.From.length : Int) + (b.From.length : Int)) (sJoin (a.From.length : Int) a.To b.To a.Objects),
    tab (a.Objects + b.Objects) (sJoin a.Objects a.Identity b.Identity (a.From.length : Int)), tab ((a.From.length : Int) + (b.From.length : Int)) fun i => tab ((a.From.length : Int) + (b.From.length : Int)) (sCell a b i)⟩

theorem sJoin_low {n k : Int} {a b : List Int} (h : (a.length : Int) = n) : a = tab n (sJoin n a b k) := by
  conv => lhs; rw [← tab_el a]
  rw [h]
  apply tab_congr
  intro i i0 i1
  unfold sJoin
  rw [if_pos i1]
theorem sJoin_hi {n k i : Int} {a b : List Int} (h : 0 ≤ i) : sJoin n a b k (n + i) = el b i + k := by
  unfold sJoin
  rw [if_neg (by omega), show n + i - n = i by omega]

/-- The rows while the first part's rows grow: row k has j more. -/
def sRows (a b : XCategory) (k j : Int) : List (List Int) :=
  tab (a.From.length : Int) fun i => tab ((a.From.length : Int) + (if i < k then (b.From.length : Int) else if i = k then j else 0)) (sCell a b i)

theorem sRows_start {a b : XCategory} (h : Shp a) : a.Composites = sRows a b 0 0 := by
  have lco := h.lco
  conv => lhs; rw [← tab_el a.Composites]
  rw [lco]
  unfold sRows
  apply tab_congr
  intro i i0 i1
  rw [if_neg (by omega)]
  have e : (if i = 0 then (0 : Int) else 0) = 0 := by split <;> rfl
  rw [e, Int.add_zero]
  conv => lhs; rw [← tab_el (el a.Composites i)]
  rw [h.row i i0 i1]
  apply tab_congr
  intro j j0 j1
  unfold sCell
  rw [if_pos i1, if_pos j1]
theorem sRows_next {a b : XCategory} {k : Int} : sRows a b k (b.From.length : Int) = sRows a b (k + 1) 0 := by
  unfold sRows
  apply tab_congr
  intro i i0 i1
  congr 2
  by_cases h1 : i < k
  · rw [if_pos h1, if_pos (by omega)]
  · by_cases h2 : i = k
    · rw [if_neg h1, if_pos h2, if_pos (by omega)]
    · rw [if_neg h1, if_neg h2, if_neg (by omega)]; split <;> rfl
theorem sRows_end {a b : XCategory} : sRows a b (a.From.length : Int) 0 = tab (a.From.length : Int) fun i => tab ((a.From.length : Int) + (b.From.length : Int)) (sCell a b i) := by
  unfold sRows
  apply tab_congr
  intro i i0 i1
  rw [if_pos i1]

theorem l03Sum_eq {a b : XCategory} (sa : SmallC a) (ha : Shp a) (hb : Shp b) : M.spec_l03Sum a b = some (sumC a b) := by
  apply Ret.eq
  have a0 := ha.n0
  have a8 := ha.n8
  have am := ha.m40
  have b0 := hb.n0
  have b8 := hb.n8
  have bm := hb.m40
  have alto := ha.lto
  have alid := ha.lid
  have alco := ha.lco
  have blto := hb.lto
  have blid := hb.lid
  have blco := hb.lco
  unfold M.spec_l03Sum
  refine Ret.call (l02Own_eq sa) ?_
  refine push_more (n := a.Objects) (m := b.Objects) (F := sJoin a.Objects a.Identity b.Identity (a.From.length : Int)) a0 b0 (by omega) (sJoin_low alid) ?_ ?_
  · intro i next i0 i1 hl hn
    dsimp only
    rw [if_pos (decide_eq_true i1)]
    have y := hb.id_in i i0 i1
    refine Ret.idx i0 (by omega) ?_
    rw [wrap_in (by omega) (by omega)]
    rw [sJoin_hi i0] at hn
    exact Ret.chk (by unfold lim; simp only [List.length_cons, List.length_nil]; omega) hn
  intro next
  dsimp only
  rw [if_neg (by simp)]
  refine Ret.loop (a.From.length : Int) (fun k s => s = (sRows a b k 0, k)) (by omega) (by omega) (by rw [← sRows_start ha]) ?_ ?_
  · rintro k s next k0 k1 rfl hn
    dsimp only
    have lr : ∀ k j, ((sRows a b k j).length : Int) = (a.From.length : Int) := fun k j => by unfold sRows; rw [tab_length]; omega
    rw [lr, if_pos (decide_eq_true k1)]
    refine Ret.loop (b.From.length : Int) (fun j s => s = (sRows a b k j, j)) (by omega) (by omega) rfl ?_ ?_
    · rintro j s next j0 j1 rfl hn2
      dsimp only
      rw [if_pos (decide_eq_true j1)]
      have e1 : el (sRows a b k j) k = tab ((a.From.length : Int) + j) (sCell a b k) := by
        unfold sRows
        rw [el_tab k0 k1, if_neg (by omega), if_pos rfl]
      have e2 : sCell a b k ((a.From.length : Int) + j) = -1 := by
        unfold sCell
        rw [if_pos k1, if_neg (by omega)]
      refine Ret.idx k0 (by rw [lr]; exact k1) ?_
      rw [e1]
      refine Ret.chk (by unfold lim; rw [tab_length]; simp only [List.length_cons, List.length_nil]; omega) (hn2 _ ?_)
      rw [wrap_in (by omega) (by omega)]
      refine Prod.ext ?_ rfl
      dsimp only
      rw [show ([-1] : List Int) = [sCell a b k ((a.From.length : Int) + j)] by rw [e2], ← tab_succ _ (by omega)]
      unfold sRows
      rw [set_tab k0]
      apply tab_congr
      intro i i0 i1
      by_cases hik : i = k
      · subst hik
        rw [if_pos rfl, if_neg (by omega), if_pos rfl, Int.add_assoc]
      · rw [if_neg hik, if_neg hik, if_neg hik]
    · rintro s next rfl
      dsimp only
      rw [if_neg (by simp)]
      refine hn _ ?_
      rw [sRows_next, wrap_in (by omega) (by omega)]
  rintro s next rfl
  dsimp only
  have lr : ((sRows a b (a.From.length : Int) 0).length : Int) = (a.From.length : Int) := by unfold sRows; rw [tab_length]; omega
  rw [lr, if_neg (by simp), sRows_end]
  refine Ret.loop (b.From.length : Int) (fun i s => s = (tab ((a.From.length : Int) + i) (sJoin (a.From.length : Int) a.From b.From a.Objects), tab ((a.From.length : Int) + i) (sJoin (a.From.length : Int) a.To b.To a.Objects),
      tab ((a.From.length : Int) + i) (fun i => tab ((a.From.length : Int) + (b.From.length : Int)) (sCell a b i)), i)) (by omega) (by omega) ?_ ?_ ?_
  · refine Prod.ext ?_ (Prod.ext ?_ (Prod.ext ?_ rfl))
    · dsimp only; rw [Int.add_zero]; exact sJoin_low rfl
    · dsimp only; rw [Int.add_zero]; exact sJoin_low alto
    · dsimp only; rw [Int.add_zero]
  · rintro i s next i0 i1 rfl hn
    dsimp only
    rw [if_pos (decide_eq_true i1)]
    have y1 := hb.from_in i i0 i1
    have y2 := hb.to_in i i0 i1
    have yr := hb.row i i0 i1
    refine Ret.idx i0 i1 (Ret.chk (by unfold lim; rw [tab_length]; simp only [List.length_cons, List.length_nil]; omega) ?_)
    refine Ret.idx i0 (by omega) (Ret.chk (by unfold lim; rw [tab_length]; simp only [List.length_cons, List.length_nil]; omega) ?_)
    refine push_loop (n := (a.From.length : Int)) (F := sCell a b ((a.From.length : Int) + i)) (by omega) (by omega) ?_ ?_
    · intro j next j0 j1 hl hn2
      dsimp only
      rw [if_pos (decide_eq_true j1)]
      have e2 : sCell a b ((a.From.length : Int) + i) j = -1 := by
        unfold sCell
        rw [if_neg (by omega), if_pos j1]
      rw [e2] at hn2
      exact Ret.chk (by unfold lim; simp only [List.length_cons, List.length_nil]; omega) hn2
    intro next2
    dsimp only
    rw [if_neg (by simp)]
    refine push_more (n := (a.From.length : Int)) (m := (b.From.length : Int)) (F := sCell a b ((a.From.length : Int) + i)) (by omega) (by omega) (by omega) rfl ?_ ?_
    · intro j next j0 j1 hl hn2
      dsimp only
      rw [if_pos (decide_eq_true j1)]
      have e2 : sCell a b ((a.From.length : Int) + i) ((a.From.length : Int) + j) = if 0 ≤ cmp b i j then cmp b i j + (a.From.length : Int) else cmp b i j := by
        unfold sCell
        rw [if_neg (by omega), if_neg (by omega), show (a.From.length : Int) + i - (a.From.length : Int) = i by omega, show (a.From.length : Int) + j - (a.From.length : Int) = j by omega]
      rw [e2] at hn2
      have hc : cmp b i j < (b.From.length : Int) := by
        by_cases he : el b.To i = el b.From j
        · exact (hb.yes i j i0 i1 j0 j1 he).2
        · have := hb.no i j i0 i1 j0 j1 he; omega
      refine Ret.idx i0 (by omega) (Ret.idx j0 (by omega) (Ret.ite (fun hp => ?_) (fun hp => ?_)))
      · have hp : 0 ≤ cmp b i j := of_decide_eq_true hp
        rw [if_pos hp] at hn2
        have e3 : IntKind.i64.wrap (cmp b i j + (a.From.length : Int)) = cmp b i j + (a.From.length : Int) := wrap_in (by omega) (by omega)
        have e4 : IntKind.i64.wrap (el (el b.Composites i) j + (a.From.length : Int)) = cmp b i j + (a.From.length : Int) := e3
        rw [e4]
        exact Ret.chk (by unfold lim; simp only [List.length_cons, List.length_nil]; omega) hn2
      · have hp : ¬ 0 ≤ cmp b i j := fun x => hp (decide_eq_true x)
        rw [if_neg hp] at hn2
        exact Ret.chk (by unfold lim; simp only [List.length_cons, List.length_nil]; omega) hn2
    · intro next
      dsimp only
      rw [if_neg (by simp)]
      refine Ret.chk (by unfold lim; rw [tab_length]; omega) (hn _ ?_)
      rw [wrap_in (by omega) (by omega), wrap_in (by omega) (by omega), wrap_in (by omega) (by omega), ← Int.add_assoc, tab_succ _ (by omega), tab_succ _ (by omega), tab_succ _ (by omega), sJoin_hi i0, sJoin_hi i0]
  · rintro s next rfl
    dsimp only
    rw [if_neg (by simp), wrap_in (by omega) (by omega)]
    exact Ret.some rfl

def SFits (a b : XCategory) : Prop := a.Objects + b.Objects ≤ 8 ∧ (a.From.length : Int) + (b.From.length : Int) ≤ 40

theorem sumC_len {a b : XCategory} : ((sumC a b).From.length : Int) = (a.From.length : Int) + (b.From.length : Int) := by
  unfold sumC
  rw [tab_length]; omega

theorem added_1_eq {a b : XCategory} (ha : Shp a) (hb : Shp b) (hs : SFits a b) {c : XCategory} {i j : Int} (i0 : 0 ≤ i) (i1 : i < (a.From.length : Int) + (b.From.length : Int)) (j0 : 0 ≤ j) (j1 : j < (a.From.length : Int) + (b.From.length : Int))
    (he : sJoin (a.From.length : Int) a.To b.To a.Objects i = sJoin (a.From.length : Int) a.From b.From a.Objects j) :
    M.impl_added_1 i j (a.From.length : Int) a ((a.From.length : Int) + (b.From.length : Int)) b c a.Objects = some (sCell a b i j) := by
  have alco := ha.lco
  have blco := hb.lco
  have h2 := hs.2
  have e1 : IntKind.i64.wrap ((a.From.length : Int) + (b.From.length : Int) - 1) = (a.From.length : Int) + (b.From.length : Int) - 1 := wrap_in (by omega) (by omega)
  unfold M.impl_added_1 joinM
  dsimp only
  unfold sJoin at he
  by_cases hi : i < (a.From.length : Int)
  · have t := ha.to_in i i0 hi
    rw [if_pos hi] at he
    have hj : j < (a.From.length : Int) := by
      apply Decidable.byContradiction
      intro hj
      rw [if_neg hj] at he
      have := (hb.from_in (j - (a.From.length : Int)) (by omega) (by omega)).1
      omega
    rw [if_pos hj] at he
    have r := ha.row i i0 hi
    rw [if_pos (decide_eq_true hi), if_pos (decide_eq_true hj), then_eq i0 (by omega) j0 (by omega)]
    unfold sCell
    rw [if_pos hi, if_pos hj]; rfl
  · rw [if_neg hi] at he
    have t := hb.to_in (i - (a.From.length : Int)) (by omega) (by omega)
    have hj : ¬ j < (a.From.length : Int) := by
      intro hj
      rw [if_pos hj] at he
      have := (ha.from_in j j0 hj).2
      omega
    rw [if_neg hj] at he
    have r := hb.row (i - (a.From.length : Int)) (by omega) (by omega)
    have y := hb.yes (i - (a.From.length : Int)) (j - (a.From.length : Int)) (by omega) (by omega) (by omega) (by omega) (by omega)
    have e2 : (decide ((a.From.length : Int) ≤ i) && decide (i ≤ (a.From.length : Int) + (b.From.length : Int) - 1)) = true := by
      rw [Bool.and_eq_true]; exact ⟨decide_eq_true (by omega), decide_eq_true (by omega)⟩
    rw [if_neg (fun x => hi (of_decide_eq_true x)), e1, inRange_eq, e2]
    simp only [Option.bind_some, if_true]
    rw [wrap_in (by omega) (by omega), wrap_in (by omega) (by omega), then_eq (by omega) (by omega) (by omega) (by omega)]
    simp only [Option.bind_some]
    rw [wrap_in (by omega) (by omega)]
    unfold sCell
    rw [if_neg hi, if_neg hj, if_pos y.1, Int.add_comm]

theorem sumC_cell {a b : XCategory} (ha : Shp a) (hb : Shp b) {i j : Int} (i0 : 0 ≤ i) (i1 : i < (a.From.length : Int) + (b.From.length : Int)) (j0 : 0 ≤ j) (j1 : j < (a.From.length : Int) + (b.From.length : Int))
    (he : ¬ sJoin (a.From.length : Int) a.To b.To a.Objects i = sJoin (a.From.length : Int) a.From b.From a.Objects j) : sCell a b i j = -1 := by
  unfold sJoin at he
  unfold sCell
  by_cases hi : i < (a.From.length : Int)
  · by_cases hj : j < (a.From.length : Int)
    · rw [if_pos hi, if_pos hj] at he
      rw [if_pos hi, if_pos hj]
      exact ha.no i j i0 hi j0 hj he
    · rw [if_pos hi, if_neg hj]
  · by_cases hj : j < (a.From.length : Int)
    · rw [if_neg hi, if_pos hj]
    · rw [if_neg hi, if_neg hj] at he
      have := hb.no (i - (a.From.length : Int)) (j - (a.From.length : Int)) (by omega) (by omega) (by omega) (by omega) (by omega)
      rw [if_neg hi, if_neg hj, if_neg (by omega)]
      exact this

theorem added_eq {a b : XCategory} (sa : SmallC a) (ha : Shp a) (hb : Shp b) : M.impl_added a b false = some (if SFits a b then (sumC a b, true) else (⟨0, [], [], [], []⟩, false)) := by
  apply Ret.eq
  have a0 := ha.n0
  have a8 := ha.n8
  have am := ha.m40
  have b0 := hb.n0
  have b8 := hb.n8
  have bm := hb.m40
  have alto := ha.lto
  have alid := ha.lid
  have blto := hb.lto
  have blid := hb.lid
  unfold M.impl_added M.impl_Category_arrows
  simp only [Option.bind_some]
  refine Ret.call (clone_eq sa.s1) (Ret.call (clone_eq sa.s2) (Ret.call (clone_eq sa.s3) ?_))
  refine Ret.loop (b.From.length : Int) (fun i s => s = (tab ((a.From.length : Int) + i) (sJoin (a.From.length : Int) a.From b.From a.Objects), tab ((a.From.length : Int) + i) (sJoin (a.From.length : Int) a.To b.To a.Objects), i)) (by omega) (by omega) ?_ ?_ ?_
  · refine Prod.ext ?_ (Prod.ext ?_ rfl)
    · dsimp only; rw [Int.add_zero]; exact sJoin_low rfl
    · dsimp only; rw [Int.add_zero]; exact sJoin_low alto
  · rintro i s next i0 i1 rfl hn
    dsimp only
    rw [if_pos (decide_eq_true i1)]
    have y1 := hb.from_in i i0 i1
    have y2 := hb.to_in i i0 i1
    refine Ret.idx i0 i1 (Ret.chk (by unfold lim; rw [tab_length]; simp only [List.length_cons, List.length_nil]; omega) ?_)
    refine Ret.idx i0 (by omega) (Ret.chk (by unfold lim; rw [tab_length]; simp only [List.length_cons, List.length_nil]; omega) (hn _ ?_))
    rw [wrap_in (by omega) (by omega), wrap_in (by omega) (by omega), wrap_in (by omega) (by omega), ← Int.add_assoc, tab_succ _ (by omega), tab_succ _ (by omega), sJoin_hi i0, sJoin_hi i0, Int.add_comm a.Objects, Int.add_comm a.Objects]
  rintro s next rfl
  dsimp only
  rw [if_neg (by simp)]
  refine push_more (n := a.Objects) (m := (b.Identity.length : Int)) (F := sJoin a.Objects a.Identity b.Identity (a.From.length : Int)) a0 (by omega) (by omega) (sJoin_low alid) ?_ ?_
  · intro i next i0 i1 hl hn
    dsimp only
    rw [if_pos (decide_eq_true i1)]
    have y := hb.id_in i i0 (by omega)
    refine Ret.idx i0 (by omega) ?_
    rw [wrap_in (by omega) (by omega), Int.add_comm (a.From.length : Int)]
    rw [sJoin_hi i0] at hn
    exact Ret.chk (by unfold lim; simp only [List.length_cons, List.length_nil]; omega) hn
  intro next
  dsimp only
  rw [if_neg (by simp)]
  have eO : IntKind.i64.wrap (a.Objects + b.Objects) = a.Objects + b.Objects := wrap_in (by omega) (by omega)
  have eL : ((tab ((a.From.length : Int) + (b.From.length : Int)) (sJoin (a.From.length : Int) a.From b.From a.Objects)).length : Int) = (a.From.length : Int) + (b.From.length : Int) := by rw [tab_length]; omega
  have eT : ((tab ((a.From.length : Int) + (b.From.length : Int)) (sJoin (a.From.length : Int) a.To b.To a.Objects)).length : Int) = (a.From.length : Int) + (b.From.length : Int) := by rw [tab_length]; omega
  simp only [joinM, Bool.false_eq_true, if_false, eO, eL, blid]
  refine Ret.ite (fun h => Ret.some ?_) (fun h => Ret.ite (fun h2 => Ret.some ?_) (fun h2 => ?_))
  · have h := of_decide_eq_true h
    rw [if_neg (fun x : SFits a b => by have := x.1; omega)]
  · have h2 := of_decide_eq_true h2
    rw [if_neg (fun x : SFits a b => by have := x.2; omega)]
  · have h : ¬ a.Objects + b.Objects > 8 := fun x => h (decide_eq_true x)
    have h2 : ¬ (a.From.length : Int) + (b.From.length : Int) > 40 := fun x => h2 (decide_eq_true x)
    have hs : SFits a b := ⟨by omega, by omega⟩
    rw [if_pos hs]
    refine Ret.call (table_eq (v := sCell a b) ?_ ?_ ?_) (Ret.some ?_)
    · show ((tab ((a.From.length : Int) + (b.From.length : Int)) (sJoin (a.From.length : Int) a.From b.From a.Objects)).length : Int) ≤ 40
      omega
    · show ((tab ((a.From.length : Int) + (b.From.length : Int)) (sJoin (a.From.length : Int) a.To b.To a.Objects)).length : Int) = ((tab ((a.From.length : Int) + (b.From.length : Int)) (sJoin (a.From.length : Int) a.From b.From a.Objects)).length : Int)
      omega
    · intro i j i0 i1 j0 j1 he
      have i1 : i < ((tab ((a.From.length : Int) + (b.From.length : Int)) (sJoin (a.From.length : Int) a.From b.From a.Objects)).length : Int) := i1
      have j1 : j < ((tab ((a.From.length : Int) + (b.From.length : Int)) (sJoin (a.From.length : Int) a.From b.From a.Objects)).length : Int) := j1
      have he : el (tab ((a.From.length : Int) + (b.From.length : Int)) (sJoin (a.From.length : Int) a.To b.To a.Objects)) i = el (tab ((a.From.length : Int) + (b.From.length : Int)) (sJoin (a.From.length : Int) a.From b.From a.Objects)) j := he
      rw [el_tab i0 (by omega), el_tab j0 (by omega)] at he
      exact added_1_eq ha hb hs i0 (by omega) j0 (by omega) he
    · refine Prod.ext ?_ rfl
      show XCategory.mk _ _ _ _ _ = sumC a b
      unfold sumC
      simp only [XCategory.mk.injEq, true_and, eL]
      apply tab_congr; intro i i0 i1
      apply tab_congr; intro j j0 j1
      rw [el_tab i0 i1, el_tab j0 j1]
      split
      · rfl
      · rename_i hne
        exact (sumC_cell ha hb i0 i1 j0 j1 hne).symm

theorem sumC_small {a b : XCategory} (ha : Shp a) (hb : Shp b) (h : SFits a b) : SmallC (sumC a b) := by
  have a0 := ha.n0
  have b0 := hb.n0
  have h1 := h.1
  have h2 := h.2
  have big : ∀ {α : Type} {n : Int} (F : Int → α), n ≤ 40 → Small (tab n F) := by
    intro α n F hn; show ((tab n F).length : Int) ≤ _; rw [tab_length]; omega
  refine ⟨big _ (by omega), big _ (by omega), big _ (by omega), ?_, ?_⟩
  · show Small (tab ((a.From.length : Int) + (b.From.length : Int)) (fun i => tab ((a.From.length : Int) + (b.From.length : Int)) (sCell a b i)))
    exact big _ (by omega)
  intro r hr
  obtain ⟨i, i0, i1, rfl⟩ := mem_el (show r ∈ tab ((a.From.length : Int) + (b.From.length : Int)) (fun i => tab ((a.From.length : Int) + (b.From.length : Int)) (sCell a b i)) from hr)
  rw [tab_length] at i1
  rw [el_tab i0 (by omega)]
  exact big _ (by omega)

theorem CopairFunctors_both {f g : XFunctor} (sf : SmallF f) (sg : SmallF g) : ∃ r w, SmallF r ∧ M.spec_CopairFunctors f g = some (r, w) ∧ M.impl_CopairFunctors f g = some (r, w) := by
  unfold M.spec_CopairFunctors M.impl_CopairFunctors
  rw [l06Two_eq sf sg, areTwo_eq sf sg, l02Same_eq sf.s2 sg.s2, sameCategory_eq sf.s2 sg.s2]
  by_cases h : IsFun f ∧ IsFun g
  · by_cases h3 : f.Target = g.Target
    · have ha := h.1.1.1.shp
      have hb := h.2.1.1.shp
      rw [if_pos h, decide_eq_true h, decide_eq_true h3]
      simp only [Option.bind_some, bne_self_eq_false, Bool.false_eq_true, if_false, if_true]
      rw [l03Sum_eq sf.s1 ha hb, added_eq sf.s1 ha hb]
      simp only [Option.bind_some]
      rw [l02Fits_eq, sumC_len]
      by_cases hs : SFits f.Source g.Source
      · have e : (decide ((sumC f.Source g.Source).Objects ≤ 8) && decide ((f.Source.From.length : Int) + (g.Source.From.length : Int) ≤ 40)) = true := by
          rw [Bool.and_eq_true]; exact ⟨decide_eq_true hs.1, decide_eq_true hs.2⟩
        have lo := h.1.2.2.lo
        have la := h.1.2.2.la
        have lo' := h.2.2.2.lo
        have la' := h.2.2.2.la
        have a0 := ha.n0
        have b0 := hb.n0
        have h1 := hs.1
        have h2 := hs.2
        have so : Small (f.Objects ++ g.Objects) := by unfold Small; rw [List.length_append]; omega
        have s2 : Small (f.Arrows ++ g.Arrows) := by unfold Small; rw [List.length_append]; omega
        rw [e, if_pos hs, own_eq sf.s3, own_eq sf.s4, clone_eq sf.s3, clone_eq sf.s4]
        have q1 : f.Objects.length + g.Objects.length ≤ lim := by unfold lim; omega
        have q2 : f.Arrows.length + g.Arrows.length ≤ lim := by unfold lim; omega
        simp only [Option.bind_some, if_true, chk, q1, q2]
        rw [l06Make_eq (sumC_small ha hb hs) sf.s2 so s2, functor_eq (sumC_small ha hb hs) sf.s2 so s2]
        exact ⟨⟨sumC f.Source g.Source, f.Target, f.Objects ++ g.Objects, f.Arrows ++ g.Arrows⟩, 0, ⟨sumC_small ha hb hs, sf.s2, so, s2⟩, rfl, rfl⟩
      · have e : (decide ((sumC f.Source g.Source).Objects ≤ 8) && decide ((f.Source.From.length : Int) + (g.Source.From.length : Int) ≤ 40)) = false := by
          rw [Bool.eq_false_iff]; intro x; rw [Bool.and_eq_true] at x; exact hs ⟨of_decide_eq_true x.1, of_decide_eq_true x.2⟩
        rw [e, if_neg hs]
        exact ⟨zeroF, _, zeroF_small, rfl, rfl⟩
    · rw [if_pos h, decide_eq_true h, decide_eq_false h3]
      exact ⟨zeroF, _, zeroF_small, rfl, rfl⟩
  · rw [if_neg h, decide_eq_false h]
    exact ⟨zeroF, _, zeroF_small, rfl, rfl⟩

theorem law_CopairFunctors {a0 : XFunctor} {a1 : XFunctor} (h0 : R.XFunctor a0) (h1 : R.XFunctor a1) : M.laws_FnExactCopairFunctors a0 a1 = some true := by
  unfold M.laws_FnExactCopairFunctors
  obtain ⟨v0, e0, hv0⟩ := szFunctor_r (n := 1048576) (by decide) (by decide) (fitsF h0)
  rw [e0, Option.bind_some]
  rcases hv0 with ⟨z0, _⟩ | ⟨l0, u0, s0⟩
  · rw [if_pos (decide_eq_true z0)]
  · rw [if_neg (fun h => absurd (of_decide_eq_true h) (by omega))]
    obtain ⟨v1, e1, hv1⟩ := szFunctor_r (n := v0) l0 (by omega) (fitsF h1)
    rw [e1, Option.bind_some]
    rcases hv1 with ⟨z1, _⟩ | ⟨l1, u1, s1⟩
    · rw [if_pos (decide_eq_true z1)]
    · rw [if_neg (fun h => absurd (of_decide_eq_true h) (by omega))]
      rw [toFunctor_eq s0, Option.bind_some, toFunctor_eq s1, Option.bind_some]
      obtain ⟨g0, w, hg0, es, ei⟩ := CopairFunctors_both s0 s1
      rw [es, ei]
      simp only [Option.bind_some]
      rw [eqFunctor_refl hg0, eqFunctor_refl s0, eqFunctor_refl s1]
      obtain ⟨n0, x0, p0, q0, c0, d0, _⟩ := mh_F s0 1 (by omega) (by omega)
      obtain ⟨n1, x1, p1, q1, c1, d1, _⟩ := mh_F s1 (1 + n0) (by omega) (by omega)
      obtain ⟨n2, x2, p2, q2, c2, d2, _⟩ := mh_F hg0 1 (by omega) (by omega)
      simp only [Option.bind_some, bne_self_eq_false, Bool.false_eq_true, if_false, if_true, decide_eq_true_eq, c0, c1, c2, d2]
      rw [if_neg (by omega), if_neg (by omega)]

end Go.Gx
