/- Plain laws: the product as impl makes it; projections. -/
import Derived.Test.YtjmjhhhglbeacaaGxPp
namespace Go.Gx
open Classical
set_option maxHeartbeats 2000000

def zeroC : XCategory := ⟨0, [], [], [], []⟩
def PFits (a b : XCategory) : Prop := a.Objects * b.Objects ≤ 8 ∧ (a.From.length : Int) * (b.From.length : Int) ≤ 40

theorem tdiv_nn {x m : Int} (h : 0 ≤ x) : x.tdiv m = x / m := Int.tdiv_eq_ediv_of_nonneg h
theorem tmod_nn {x m : Int} (h : 0 ≤ x) : x.tmod m = x % m := Int.tmod_eq_emod_of_nonneg h

theorem product_1_eq {a b : XCategory} (ha : Shp a) (hb : Shp b) {i j : Int} (i0 : 0 ≤ i) (i1 : i < (a.From.length : Int) * (b.From.length : Int)) (j0 : 0 ≤ j) (j1 : j < (a.From.length : Int) * (b.From.length : Int))
    (h1 : el a.To (i / (b.From.length : Int)) = el a.From (j / (b.From.length : Int))) (h2 : el b.To (i % (b.From.length : Int)) = el b.From (j % (b.From.length : Int))) :
    M.impl_product_1 i j a (b.From.length : Int) b = some (cmp a (i / (b.From.length : Int)) (j / (b.From.length : Int)) * (b.From.length : Int) + cmp b (i % (b.From.length : Int)) (j % (b.From.length : Int))) := by
  obtain ⟨p0, p1, p2, p3, p4⟩ := parts i0 i1 (by omega)
  obtain ⟨q0, q1, q2, q3, q4⟩ := parts j0 j1 (by omega)
  have am := ha.m40
  have bm := hb.m40
  have x := ha.yes _ _ p1 p2 q1 q2 h1
  have y := hb.yes _ _ p3 p4 q3 q4 h2
  have hm := mulb x.1 x.2 y.1 y.2
  have hB := mulB (n := (a.From.length : Int)) (m := (b.From.length : Int)) (by omega) am (by omega) bm
  have ar := ha.row _ p1 p2
  have br := hb.row _ p3 p4
  have ac := ha.lco
  have bc := hb.lco
  unfold M.impl_product_1 chk
  rw [if_pos (by omega), tdiv_nn i0, tdiv_nn j0, tmod_nn i0, tmod_nn j0, wrap_in (x := i / _) (by omega) (by omega), wrap_in (x := j / _) (by omega) (by omega)]
  rw [then_eq p1 (by omega) q1 (by omega)]
  simp only [Option.bind_some]
  rw [then_eq p3 (by omega) q3 (by omega)]
  simp only [Option.bind_some]
  rw [wrap2 (by omega) (by omega) (by omega)]

theorem product_eq {a b : XCategory} (ha : Shp a) (hb : Shp b) : M.impl_product a b = some (if PFits a b then (prodC a b, true) else (zeroC, false)) := by
  apply Ret.eq
  unfold M.impl_product M.impl_Category_arrows
  have am := ha.m40
  have bm := hb.m40
  have a0 := ha.n0
  have a8 := ha.n8
  have b0 := hb.n0
  have b8 := hb.n8
  have ai := ha.lid
  have bi := hb.lid
  have at' := ha.lto
  have bt := hb.lto
  have hO := mulB a0 a8 b0 b8
  have hB := mulB (n := (a.From.length : Int)) (m := (b.From.length : Int)) (by omega) am (by omega) bm
  simp only [Option.bind_some, decide_eq_true_eq]
  rw [wrap_in (x := a.Objects * b.Objects) (by omega) (by omega), wrap_in (x := (a.From.length : Int) * (b.From.length : Int)) (by omega) (by omega)]
  refine Ret.ite (fun h => Ret.some ?_) (fun h8 => Ret.ite (fun h => Ret.some ?_) (fun h40 => ?_))
  · rw [if_neg (by unfold PFits; omega)]; rfl
  · rw [if_neg (by unfold PFits; omega)]; rfl
  · rw [if_pos (by unfold PFits; omega)]
    refine Ret.loop (a.From.length : Int) (fun i s => s = (tab (i * (b.From.length : Int)) (fun k => pFrom a b (k / (b.From.length : Int)) (k % (b.From.length : Int))), tab (i * (b.From.length : Int)) (fun k => pTo a b (k / (b.From.length : Int)) (k % (b.From.length : Int))), i)) (by omega) (by omega) (by rw [tab2_zero, tab2_zero]) ?_ ?_
    · rintro f s next f0 f1 rfl hn1
      dsimp only
      rw [if_pos f1]
      refine Ret.loop (b.From.length : Int) (fun j s => s = (tab (f * (b.From.length : Int) + j) (fun k => pFrom a b (k / (b.From.length : Int)) (k % (b.From.length : Int))), tab (f * (b.From.length : Int) + j) (fun k => pTo a b (k / (b.From.length : Int)) (k % (b.From.length : Int))), j)) (by omega) (by omega) (by rw [Int.add_zero]) ?_ ?_
      · rintro g s next g0 g1 rfl hn2
        dsimp only
        rw [if_pos g1]
        have hb1 := mulb f0 f1 g0 g1
        have hl : ∀ {α : Type} (F : Int → α), ((tab (f * (b.From.length : Int) + g) F).length : Int) ≤ 1600 := fun F => by
          rw [tab_len' _ _ (by omega)]; omega
        have l1 := hl fun k => pFrom a b (k / (b.From.length : Int)) (k % (b.From.length : Int))
        have l2 := hl fun k => pTo a b (k / (b.From.length : Int)) (k % (b.From.length : Int))
        have x1 := ha.from_in f f0 f1
        have x2 := hb.from_in g g0 g1
        have y1 := ha.to_in f f0 f1
        have y2 := hb.to_in g g0 g1
        have hm := mulb x1.1 x1.2 x2.1 x2.2
        have hm2 := mulb y1.1 y1.2 y2.1 y2.2
        have e : IntKind.i64.wrap (IntKind.i64.wrap (el a.From f * b.Objects) + el b.From g) = pFrom a b f g := by
          rw [wrap2 (by omega) (by omega) (by omega)]; rfl
        have e2 : IntKind.i64.wrap (IntKind.i64.wrap (el a.To f * b.Objects) + el b.To g) = pTo a b f g := by
          rw [wrap2 (by omega) (by omega) (by omega)]; rfl
        refine Ret.idx f0 f1 (Ret.idx g0 g1 (Ret.chk (by unfold lim; simp only [List.length_cons, List.length_nil]; omega) (Ret.idx f0 (by omega) (Ret.idx g0 (by omega) (Ret.chk (by unfold lim; simp only [List.length_cons, List.length_nil]; omega) (hn2 _ ?_))))))
        rw [e, e2, wrap_in (by omega) (by omega), tab2_push f0 g0 g1, tab2_push f0 g0 g1]
      · rintro s next rfl
        dsimp only
        rw [if_neg (by omega)]
        exact hn1 _ (by rw [tab2_row, tab2_row, wrap_in (by omega) (by omega)])
    · rintro s next rfl
      dsimp only
      rw [if_neg (by omega)]
      refine Ret.acc (a.Identity.length : Int) (fun i l => l = tab (i * b.Objects) fun k => pId a b (k / b.Objects) (k % b.Objects)) (by omega) (by omega) tab2_zero.symm ?_ ?_
      · rintro i l next i0 i1 rfl hn1
        dsimp only
        rw [if_pos i1]
        refine Ret.idx i0 i1 ?_
        refine Ret.acc (b.Identity.length : Int) (fun j l => l = tab (i * b.Objects + j) fun k => pId a b (k / b.Objects) (k % b.Objects)) (by omega) (by omega) (by rw [Int.add_zero]) ?_ ?_
        · rintro j l next j0 j1 rfl hn2
          dsimp only
          rw [if_pos j1]
          have hb1 := mulb (n := a.Objects) (m := b.Objects) i0 (by omega) j0 (by omega)
          have hl : ((tab (i * b.Objects + j) fun k => pId a b (k / b.Objects) (k % b.Objects)).length : Int) ≤ 64 := by
            rw [tab_len' _ _ (by omega)]; omega
          have x1 := ha.id_in i i0 (by omega)
          have x2 := hb.id_in j j0 (by omega)
          have hm := mulb x1.1 x1.2 x2.1 x2.2
          have e : IntKind.i64.wrap (IntKind.i64.wrap (el a.Identity i * (b.From.length : Int)) + el b.Identity j) = pId a b i j := by
            rw [wrap2 (by omega) (by omega) (by omega)]; rfl
          refine Ret.idx j0 j1 (Ret.chk (by unfold lim; simp only [List.length_cons, List.length_nil]; omega) (hn2 _ ?_))
          rw [← tab2_push i0 j0 (show j < b.Objects by omega)]; exact congrArg (fun z => _ ++ [z]) e
        · rintro l next rfl
          dsimp only
          rw [if_neg (by omega)]
          exact hn1 _ (by rw [bi]; exact tab2_row)
      · rintro l next rfl
        dsimp only
        rw [if_neg (by omega), ai]
        have lF := tab_len' ((a.From.length : Int) * (b.From.length : Int)) (fun k => pFrom a b (k / (b.From.length : Int)) (k % (b.From.length : Int))) hB.1
        have lT := tab_len' ((a.From.length : Int) * (b.From.length : Int)) (fun k => pTo a b (k / (b.From.length : Int)) (k % (b.From.length : Int))) hB.1
        have hiff : ∀ i j, 0 ≤ i → i < (a.From.length : Int) * (b.From.length : Int) → 0 ≤ j → j < (a.From.length : Int) * (b.From.length : Int) →
            (pTo a b (i / (b.From.length : Int)) (i % (b.From.length : Int)) = pFrom a b (j / (b.From.length : Int)) (j % (b.From.length : Int)) ↔
              el a.To (i / (b.From.length : Int)) = el a.From (j / (b.From.length : Int)) ∧ el b.To (i % (b.From.length : Int)) = el b.From (j % (b.From.length : Int))) := by
          intro i j i0 i1 j0 j1
          obtain ⟨p0, p1, p2, p3, p4⟩ := parts i0 i1 (by omega)
          obtain ⟨q0, q1, q2, q3, q4⟩ := parts j0 j1 (by omega)
          have y := hb.to_in _ p3 p4
          have z := hb.from_in _ q3 q4
          exact code_inj y.1 y.2 z.1 z.2
        refine Ret.call (table_eq (v := fun i j => cmp a (i / (b.From.length : Int)) (j / (b.From.length : Int)) * (b.From.length : Int) + cmp b (i % (b.From.length : Int)) (j % (b.From.length : Int))) (by dsimp only; omega) (by dsimp only; omega) ?_) (Ret.some ?_)
        · dsimp only
          intro i j i0 i1 j0 j1 hij
          rw [lF] at i1 j1
          rw [el_tab i0 i1, el_tab j0 j1, hiff i j i0 i1 j0 j1] at hij
          exact product_1_eq ha hb i0 i1 j0 j1 hij.1 hij.2
        · dsimp only
          rw [lF]
          unfold prodC
          congr 2
          apply tab_congr; intro i i0 i1
          unfold pRow
          apply tab_congr; intro j j0 j1
          rw [el_tab i0 i1, el_tab j0 j1]
          simp only [hiff i j i0 i1 j0 j1]
          obtain ⟨p0, p1, p2, p3, p4⟩ := parts i0 i1 (by omega)
          obtain ⟨q0, q1, q2, q3, q4⟩ := parts j0 j1 (by omega)
          unfold pCell
          by_cases h1 : el a.To (i / (b.From.length : Int)) = el a.From (j / (b.From.length : Int))
          · have x := ha.yes _ _ p1 p2 q1 q2 h1
            rw [if_pos x.1]
            by_cases h2 : el b.To (i % (b.From.length : Int)) = el b.From (j % (b.From.length : Int))
            · have y := hb.yes _ _ p3 p4 q3 q4 h2
              rw [if_pos ⟨h1, h2⟩, if_pos y.1]
            · have y := hb.no _ _ p3 p4 q3 q4 h2
              rw [if_neg (fun h => h2 h.2), if_neg (by omega)]
          · have x := ha.no _ _ p1 p2 q1 q2 h1
            rw [if_neg (fun h => h1 h.1), if_neg (by omega)]

theorem prodC_len {a b : XCategory} (ha : Shp a) (hb : Shp b) : ((prodC a b).From.length : Int) = (a.From.length : Int) * (b.From.length : Int) ∧ ((prodC a b).To.length : Int) = (a.From.length : Int) * (b.From.length : Int) ∧
    ((prodC a b).Identity.length : Int) = a.Objects * b.Objects ∧ ((prodC a b).Composites.length : Int) = (a.From.length : Int) * (b.From.length : Int) := by
  have hO := mulB ha.n0 ha.n8 hb.n0 hb.n8
  have hB := mulB (n := (a.From.length : Int)) (m := (b.From.length : Int)) (by omega) ha.m40 (by omega) hb.m40
  simp only [prodC, tab2, tab_length]; omega

theorem prodC_small {a b : XCategory} (ha : Shp a) (hb : Shp b) (h : PFits a b) : SmallC (prodC a b) := by
  have hO := mulB ha.n0 ha.n8 hb.n0 hb.n8
  have hB := mulB (n := (a.From.length : Int)) (m := (b.From.length : Int)) (by omega) ha.m40 (by omega) hb.m40
  have h1 := h.1
  have h2 := h.2
  obtain ⟨l1, l2, l3, l4⟩ := prodC_len ha hb
  refine ⟨by unfold Small; omega, by unfold Small; omega, by unfold Small; omega, by unfold Small; omega, ?_⟩
  intro r hr
  obtain ⟨i, i0, i1, rfl⟩ := mem_el hr
  rw [l4] at i1
  have e : el (prodC a b).Composites i = pRow a b (i / (b.From.length : Int)) (i % (b.From.length : Int)) := by
    exact el_tab (f := fun k => pRow a b (k / (b.From.length : Int)) (k % (b.From.length : Int))) i0 i1
  rw [e]
  have l5 : ((pRow a b (i / (b.From.length : Int)) (i % (b.From.length : Int))).length : Int) = (a.From.length : Int) * (b.From.length : Int) := by
    simp only [pRow, tab2, tab_length]; omega
  unfold Small; omega

/-- The part of a pair. -/
def half (sel : Bool) (x m : Int) : Int := if sel then x % m else x / m
def proj (sel : Bool) (a b : XCategory) : XFunctor :=
  ⟨prodC a b, if sel then b else a, tab (a.Objects * b.Objects) fun s => half sel s b.Objects, tab ((a.From.length : Int) * (b.From.length : Int)) fun s => half sel s (b.From.length : Int)⟩

theorem l02Fits_eq (c : XCategory) : M.spec_l02Fits c = some (decide (c.Objects ≤ 8) && decide ((c.From.length : Int) ≤ 40)) := by
  unfold M.spec_l02Fits
  by_cases h : c.Objects ≤ 8 <;> simp [h]

theorem l06Project_eq {a b : XCategory} (sa : SmallC a) (sb : SmallC b) (sel : Bool) :
    M.spec_l06Project a b sel = some (if IsCat a ∧ IsCat b then (if PFits a b then (proj sel a b, 0) else (zeroF, 3)) else (zeroF, 1)) := by
  apply Ret.eq
  unfold M.spec_l06Project
  refine Ret.call (l02Is_eq sa) (Ret.ite (fun h1 => ?_) (fun h1 => Ret.some (by rw [if_neg (fun h => h1 (decide_eq_true h.1))]; rfl)))
  refine Ret.call (l02Is_eq sb) (Ret.ite (fun h2 => ?_) (fun h2 => Ret.some (by rw [if_neg (fun h => h2 (decide_eq_true h.2))]; rfl)))
  have h1 := of_decide_eq_true h1
  have h2 := of_decide_eq_true h2
  rw [if_pos ⟨h1, h2⟩]
  have ha := h1.1.shp
  have hb := h2.1.shp
  have hO := mulB ha.n0 ha.n8 hb.n0 hb.n8
  have hB := mulB (n := (a.From.length : Int)) (m := (b.From.length : Int)) (by omega) ha.m40 (by omega) hb.m40
  have b0 := hb.n0
  have lF := (prodC_len ha hb).1
  have lO : (prodC a b).Objects = a.Objects * b.Objects := rfl
  refine Ret.call (l03Product_eq ha hb) (Ret.call (l02Fits_eq _) (Ret.ite (fun hf => ?_) (fun hf => Ret.some (by
    rw [Bool.and_eq_true, decide_eq_true_eq, decide_eq_true_eq, lF, lO] at hf
    rw [if_neg (show ¬ PFits a b from hf)]; rfl))))
  rw [Bool.and_eq_true, decide_eq_true_eq, decide_eq_true_eq, lF, lO] at hf
  have hp : PFits a b := hf
  rw [if_pos hp]
  have sp := prodC_small ha hb hp
  simp only [decide_eq_true_eq, lF, lO]
  refine Ret.acc (a.Objects * b.Objects) (fun i l => l = tab i fun s => half sel s b.Objects) hO.1 (by omega) rfl ?_ ?_
  · rintro i l next i0 i1 rfl hn1
    dsimp only
    rw [if_pos i1]
    obtain ⟨p0, p1, p2, p3, p4⟩ := parts i0 i1 b0
    have hl := tab_len' i (fun s => half sel s b.Objects) i0
    cases sel with
    | true =>
      refine Ret.ite (fun _ => Ret.chk (by omega) (Ret.chk (by unfold lim; simp only [List.length_cons, List.length_nil]; omega) (hn1 _ ?_))) (fun h => absurd rfl h)
      rw [tab_succ _ i0, tmod_nn i0]; rfl
    | false =>
      refine Ret.ite (fun h => Bool.noConfusion h) (fun _ => Ret.chk (by omega) (Ret.chk (by unfold lim; simp only [List.length_cons, List.length_nil]; omega) (hn1 _ ?_)))
      rw [tab_succ _ i0, tdiv_nn i0, wrap_in (x := i / _) (by have := ha.n8; omega) (by have := ha.n8; omega)]; rfl
  · rintro l next rfl
    dsimp only
    rw [if_neg (by omega)]
    refine Ret.acc ((a.From.length : Int) * (b.From.length : Int)) (fun i l => l = tab i fun s => half sel s (b.From.length : Int)) hB.1 (by omega) rfl ?_ ?_
    · rintro i l next i0 i1 rfl hn1
      dsimp only
      rw [if_pos i1]
      obtain ⟨p0, p1, p2, p3, p4⟩ := parts i0 i1 (by omega)
      have hl := tab_len' i (fun s => half sel s (b.From.length : Int)) i0
      cases sel with
      | true =>
        refine Ret.ite (fun _ => Ret.chk (by omega) (Ret.chk (by unfold lim; simp only [List.length_cons, List.length_nil]; omega) (hn1 _ ?_))) (fun h => absurd rfl h)
        rw [tab_succ _ i0, tmod_nn i0]; rfl
      | false =>
        refine Ret.ite (fun h => Bool.noConfusion h) (fun _ => Ret.chk (by omega) (Ret.chk (by unfold lim; simp only [List.length_cons, List.length_nil]; omega) (hn1 _ ?_)))
        rw [tab_succ _ i0, tdiv_nn i0, wrap_in (x := i / _) (by have := ha.m40; omega) (by have := ha.m40; omega)]; rfl
    · rintro l next rfl
      dsimp only
      rw [if_neg (by omega)]
      have so : Small (tab (a.Objects * b.Objects) fun s => half sel s b.Objects) := by unfold Small; rw [tab_len' _ _ hO.1]; omega
      have sr : Small (tab ((a.From.length : Int) * (b.From.length : Int)) fun s => half sel s (b.From.length : Int)) := by unfold Small; rw [tab_len' _ _ hB.1]; omega
      cases sel with
      | true => exact Ret.ite (fun _ => Ret.call (l06Make_eq sp sb so sr) (Ret.some rfl)) (fun h => absurd rfl h)
      | false => exact Ret.ite (fun h => Bool.noConfusion h) (fun _ => Ret.call (l06Make_eq sp sa so sr) (Ret.some rfl))

theorem projection_eq {a b : XCategory} (sa : SmallC a) (sb : SmallC b) (sel : Bool) {g : Int → Int → Option Int} (hg : ∀ x m, 0 ≤ x → x ≤ 1048576 → 0 < m → g x m = some (half sel x m)) :
    M.impl_projection a b (if sel then b else a) g = some (if IsCat a ∧ IsCat b then (if PFits a b then (proj sel a b, 0) else (zeroF, 3)) else (zeroF, 1)) := by
  apply Ret.eq
  unfold M.impl_projection M.impl_Category_arrows
  refine Ret.call (areCategories_eq (by simp) (by simp [sa, sb])) (Ret.ite (fun h1 => ?_) (fun h1 => Ret.some (by rw [if_neg (fun h => h1 (decide_eq_true (by simp [h.1, h.2])))]; rfl)))
  have h1 := of_decide_eq_true h1
  simp only [List.mem_cons, List.not_mem_nil, or_false, forall_eq_or_imp, forall_eq] at h1
  rw [if_pos h1]
  have ha := h1.1.1.shp
  have hb := h1.2.1.shp
  have hO := mulB ha.n0 ha.n8 hb.n0 hb.n8
  have hB := mulB (n := (a.From.length : Int)) (m := (b.From.length : Int)) (by omega) ha.m40 (by omega) hb.m40
  have b0 := hb.n0
  have lF := (prodC_len ha hb).1
  have lO : (prodC a b).Objects = a.Objects * b.Objects := rfl
  refine Ret.call (product_eq ha hb) ?_
  rcases Classical.em (PFits a b) with hp | hp
  case inr =>
    simp only [if_neg hp, Bool.false_eq_true, if_false]
    exact Ret.some rfl
  simp only [if_pos hp, if_true, lO, Option.bind_some, lF]
  have sp := prodC_small ha hb hp
  have so : Small (tab (a.Objects * b.Objects) fun s => half sel s b.Objects) := by unfold Small; rw [tab_len' _ _ hO.1]; omega
  have sr : Small (tab ((a.From.length : Int) * (b.From.length : Int)) fun s => half sel s (b.From.length : Int)) := by unfold Small; rw [tab_len' _ _ hB.1]; omega
  refine Ret.call (numbers_eq hO.1 (by omega)) (Ret.call (numbers_eq hB.1 (by omega)) ?_)
  have e1 : (((a.Objects * b.Objects).toNat : Nat) : Int) = a.Objects * b.Objects := by omega
  have e2 : ((((a.From.length : Int) * (b.From.length : Int)).toNat : Nat) : Int) = (a.From.length : Int) * (b.From.length : Int) := by omega
  simp only [tab_length, e1, e2, decide_eq_true_eq]
  refine Ret.acc (a.Objects * b.Objects) (fun i l => l = tab (a.Objects * b.Objects) fun j => if j < i then half sel j b.Objects else j) hO.1 (by omega) ?_ ?_ ?_
  · apply tab_congr; intro j j0 j1; rw [if_neg (by omega)]
  · rintro i l next i0 i1 rfl hn1
    dsimp only
    rw [if_pos i1]
    obtain ⟨p0, p1, p2, p3, p4⟩ := parts i0 i1 b0
    refine Ret.call (hg i b.Objects i0 (by omega) p0) (Ret.idx i0 (by rw [tab_length]; omega) (hn1 _ ?_))
    rw [set_tab i0]
    apply tab_congr; intro j j0 j1
    by_cases hj : j = i
    · subst hj; rw [if_pos rfl, if_pos (show j < j + 1 by omega)]
    · rw [if_neg hj]
      by_cases hlt : j < i
      · rw [if_pos hlt, if_pos (show j < i + 1 by omega)]
      · rw [if_neg hlt, if_neg (show ¬ j < i + 1 by omega)]
  · rintro l next rfl
    dsimp only
    rw [if_neg (by omega)]
    refine Ret.acc ((a.From.length : Int) * (b.From.length : Int)) (fun i l => l = tab ((a.From.length : Int) * (b.From.length : Int)) fun j => if j < i then half sel j (b.From.length : Int) else j) hB.1 (by omega) ?_ ?_ ?_
    · apply tab_congr; intro j j0 j1; rw [if_neg (by omega)]
    · rintro i l next i0 i1 rfl hn1
      dsimp only
      rw [if_pos i1]
      obtain ⟨p0, p1, p2, p3, p4⟩ := parts i0 i1 (by omega)
      refine Ret.call (hg i (b.From.length : Int) i0 (by omega) p0) (Ret.idx i0 (by rw [tab_length]; omega) (hn1 _ ?_))
      rw [set_tab i0]
      apply tab_congr; intro j j0 j1
      by_cases hj : j = i
      · subst hj; rw [if_pos rfl, if_pos (show j < j + 1 by omega)]
      · rw [if_neg hj]
        by_cases hlt : j < i
        · rw [if_pos hlt, if_pos (show j < i + 1 by omega)]
        · rw [if_neg hlt, if_neg (show ¬ j < i + 1 by omega)]
    · rintro l next rfl
      dsimp only
      rw [if_neg (by omega)]
      have f1 : (tab (a.Objects * b.Objects) fun j => if j < a.Objects * b.Objects then half sel j b.Objects else j) = tab (a.Objects * b.Objects) fun s => half sel s b.Objects := by
        apply tab_congr; intro j j0 j1; rw [if_pos j1]
      have f2 : (tab ((a.From.length : Int) * (b.From.length : Int)) fun j => if j < (a.From.length : Int) * (b.From.length : Int) then half sel j (b.From.length : Int) else j) = tab ((a.From.length : Int) * (b.From.length : Int)) fun s => half sel s (b.From.length : Int) := by
        apply tab_congr; intro j j0 j1; rw [if_pos j1]
      rw [f1, f2]
      have st : SmallC (if sel then b else a) := by cases sel <;> assumption
      exact Ret.call (functor_eq sp st so sr) (Ret.some rfl)

theorem proj_small {a b : XCategory} (sa : SmallC a) (sb : SmallC b) (ha : Shp a) (hb : Shp b) (hp : PFits a b) (sel : Bool) : SmallF (proj sel a b) := by
  have hO := mulB ha.n0 ha.n8 hb.n0 hb.n8
  have hB := mulB (n := (a.From.length : Int)) (m := (b.From.length : Int)) (by omega) ha.m40 (by omega) hb.m40
  refine ⟨prodC_small ha hb hp, ?_, ?_, ?_⟩
  · show SmallC (if sel then b else a)
    cases sel <;> assumption
  · unfold Small proj; dsimp only; rw [tab_len' _ _ hO.1]; omega
  · unfold Small proj; dsimp only; rw [tab_len' _ _ hB.1]; omega

theorem projs_small {a b : XCategory} (sa : SmallC a) (sb : SmallC b) (sel : Bool) : SmallF (if IsCat a ∧ IsCat b then (if PFits a b then (proj sel a b, (0 : Int)) else (zeroF, 3)) else (zeroF, 1)).1 := by
  split
  · rename_i h
    split
    · exact proj_small sa sb h.1.1.shp h.2.1.shp ‹_› sel
    · exact zeroF_small
  · exact zeroF_small
end Go.Gx
