/- Laid together: part 5. -/
import Derived.Test.YtiikkfdehbcfaaaGxEP3
import Derived.Test.YtiikkfdehbcfaaaGxEM4
/- The law of CoconeMaps. -/
namespace Go.Gx
open Classical
set_option maxHeartbeats 1000000

theorem mh_N {p : XCone} (h : SmallN p) : MH 1048576 M.laws_markCone (fun x k => M.laws_heldInt64S x.Legs k) (fun _ _ => True) p := by
  intro k h0 h1
  obtain ⟨n1, l1, a1, b1, e1, f1, _⟩ := mh_S h.s1 k h0 (by omega)
  refine ⟨n1, ⟨p.Apex, l1⟩, a1, b1, ?_, f1, trivial⟩
  unfold M.laws_markCone
  rw [e1]; rfl

section
variable {G : XFunctor} {p q : XCone}
/-- u is a map from the cone q to the cone p. -/
def MapP (G : XFunctor) (q p : XCone) (u : Int) : Prop := ∀ j, 0 ≤ j → j < (q.Legs.length : Int) → cmp G.Target u (el p.Legs j) = el q.Legs j
noncomputable def mapsN (G : XFunctor) (q p : XCone) : List Int := (homL G.Target q.Apex p.Apex).filter fun u => decide (MapP G q p u)

theorem l12Maps_eq (h : IsFun G) (hp : ConP G p) (hq : ConP G q) : M.spec_l12Maps G q p = some (mapsN G q p) := by
  apply Ret.eq
  have ht := h.2.1.1.shp
  have hl := homL_len ht q.Apex p.Apex
  have s8 := h.1.1.shp.n8
  have lo := h.2.2.lo
  have lp := hp.ln
  have lq := hq.ln
  unfold M.spec_l12Maps
  refine Ret.call (l02Hom_eq ht _ _) ?_
  refine Ret.acc ((homL G.Target q.Apex p.Apex).length : Int) (fun i s => s = ((homL G.Target q.Apex p.Apex).take i.toNat).filter fun u => decide (MapP G q p u)) (by omega) (by omega) rfl ?_ ?_
  · rintro i s next i0 i1 rfl hn
    have hle : ((((homL G.Target q.Apex p.Apex).take i.toNat).filter fun u => decide (MapP G q p u)).length : Int) ≤ 40 := by
      have := List.length_filter_le (fun u => decide (MapP G q p u)) ((homL G.Target q.Apex p.Apex).take i.toNat)
      rw [List.length_take] at this
      omega
    have au := hom_ar (el_mem (l := homL G.Target q.Apex p.Apex) i0 i1)
    have tk := take_succ_el i0 i1
    dsimp only
    rw [if_pos (decide_eq_true i1)]
    unfold joinM
    -- what comes behind the look at the legs
    have key : ∀ b : Bool, b = decide (MapP G q p (el (homL G.Target q.Apex p.Apex) i)) → Ret (if b then
          (idx (homL G.Target q.Apex p.Apex) i).bind fun y11 =>
          chk ((((homL G.Target q.Apex p.Apex).take i.toNat).filter fun u => decide (MapP G q p u)).length + (([y11] : List Int).length) ≤ lim) (
            next ((((homL G.Target q.Apex p.Apex).take i.toNat).filter fun u => decide (MapP G q p u)) ++ ([y11] : List Int), IntKind.i64.wrap (i + 1)))
        else
          next ((((homL G.Target q.Apex p.Apex).take i.toNat).filter fun u => decide (MapP G q p u)), IntKind.i64.wrap (i + 1))) fun r => r = mapsN G q p := by
      rintro b rfl
      refine Ret.ite (fun e => Ret.idx i0 i1 (Ret.chk (by unfold lim; simp only [List.length_cons, List.length_nil]; omega) (hn _ ?_))) (fun e => hn _ ?_)
      · rw [tk, List.filter_append, List.filter_cons, if_pos e]; rfl
      · rw [tk, List.filter_append, List.filter_cons, if_neg e, List.filter_nil, List.append_nil]
    refine Ret.loop (q.Legs.length : Int) (fun j s => s.2 = j ∧ s.1 = decide (∀ k, 0 ≤ k → k < j → cmp G.Target (el (homL G.Target q.Apex p.Apex) i) (el p.Legs k) = el q.Legs k)) (by omega) (by omega) ⟨rfl, (decide_eq_true fun k k0 k1 => by omega).symm⟩ ?_ ?_
    · rintro j ⟨b, j'⟩ nx j0 j1 ⟨hj, hb⟩ hn2
      dsimp only at hj hb ⊢
      subst hj
      have ap := hp.at j0 (by omega)
      rw [if_pos (decide_eq_true j1)]
      refine Ret.ite (fun e => Ret.idx i0 i1 (Ret.idx j0 (by omega) (Ret.call (au.th ht ap) (Ret.idx j0 j1 (hn2 _ ⟨wrap_in (by omega) (by omega), ?_⟩))))) (fun e => key b ?_)
      · rw [hb] at e
        have e := of_decide_eq_true e
        rw [Bool.eq_iff_iff, decide_eq_true_iff]
        dsimp only
        rw [beq_iff_eq]
        constructor
        · intro z k k0 k1
          by_cases w : k = j'
          · subst w; exact z
          · exact e k k0 (by omega)
        · intro z; exact z j' j0 (by omega)
      · have eb : b = false := Bool.eq_false_iff.2 e
        rw [eb] at hb ⊢
        rw [eq_comm, decide_eq_false_iff_not] at hb
        rw [decide_eq_false]
        intro z
        exact hb fun k k0 k1 => z k k0 (by omega)
    · rintro ⟨b, j'⟩ nx ⟨hj, hb⟩
      dsimp only at hj hb ⊢
      subst hj
      rw [if_neg (by simp)]
      exact key b hb
  · rintro s next rfl
    dsimp only
    rw [if_neg (by simp), show ((homL G.Target q.Apex p.Apex).length : Int).toNat = (homL G.Target q.Apex p.Apex).length by omega, List.take_length]
    exact Ret.some rfl

theorem coneMaps_eq (h : IsFun G) (hp : ConP G p) (hq : ConP G q) : M.impl_coneMaps G q p = some (mapsN G q p) := by
  apply Ret.eq
  have ht := h.2.1.1.shp
  have hl := homL_len ht q.Apex p.Apex
  have s8 := h.1.1.shp.n8
  have lo := h.2.2.lo
  have lp := hp.ln
  have lq := hq.ln
  unfold M.impl_coneMaps
  refine Ret.call (hom_eq ht _ _) ?_
  refine Ret.acc ((homL G.Target q.Apex p.Apex).length : Int) (fun i s => s = ((homL G.Target q.Apex p.Apex).take i.toNat).filter fun u => decide (MapP G q p u)) (by omega) (by omega) rfl ?_ ?_
  · rintro i s next i0 i1 rfl hn
    have hle : ((((homL G.Target q.Apex p.Apex).take i.toNat).filter fun u => decide (MapP G q p u)).length : Int) ≤ 40 := by
      have := List.length_filter_le (fun u => decide (MapP G q p u)) ((homL G.Target q.Apex p.Apex).take i.toNat)
      rw [List.length_take] at this
      omega
    have au := hom_ar (el_mem (l := homL G.Target q.Apex p.Apex) i0 i1)
    have tk := take_succ_el i0 i1
    dsimp only
    rw [if_pos (decide_eq_true i1)]
    refine Ret.idx i0 i1 ?_
    refine Ret.all (p.Legs.length : Int) (fun j => cmp G.Target (el (homL G.Target q.Apex p.Apex) i) (el p.Legs j) = el q.Legs j) (by omega) (by omega) ?_ ?_
    · intro j nx j0 j1 hk hn2
      have ap := hp.at j0 j1
      rw [if_pos (decide_eq_true j1)]
      refine Ret.idx j0 j1 (Ret.call (au.ti ht ap) (Ret.idx j0 (by omega) (Ret.ite (fun e => hn _ ?_) (fun e => hn2 (Decidable.byContradiction fun z => e (bne_iff_ne.2 z))))))
      rw [tk, List.filter_append, List.filter_cons, if_neg, List.filter_nil, List.append_nil]
      intro z
      exact bne_iff_ne.1 e (of_decide_eq_true z j j0 (by omega))
    · intro nx hk
      rw [if_neg (by simp)]
      refine Ret.chk (by unfold lim; simp only [List.length_cons, List.length_nil]; omega) (hn _ ?_)
      rw [tk, List.filter_append, List.filter_cons, if_pos (decide_eq_true (show MapP G q p _ from fun j j0 j1 => hk j j0 (by omega)))]; rfl
  · rintro s next rfl
    dsimp only
    rw [if_neg (by simp), show ((homL G.Target q.Apex p.Apex).length : Int).toNat = (homL G.Target q.Apex p.Apex).length by omega, List.take_length]
    exact Ret.some rfl

theorem l12Two_eq (h : IsFun G) (sp : SmallN p) (sq : SmallN q) : M.spec_l12Two G p q = some (if ConP G p ∧ ConP G q then 0 else 5) := by
  unfold M.spec_l12Two
  rw [l12Cone_eq h sp, l12Cone_eq h sq]
  by_cases a : ConP G p <;> by_cases b : ConP G q <;> simp [a, b]
instance : Inhabited XCone := ⟨⟨0, []⟩⟩
theorem coneCode_eq (h : IsFun G) (sp : SmallN p) (sq : SmallN q) : M.impl_coneCode (⟨G⟩ : Xcocones) [p, q] = some (if ConP G p ∧ ConP G q then 0 else 5) := by
  apply Ret.eq
  unfold M.impl_coneCode M.impl_cocones_diagram
  refine Ret.all 2 (fun i => if i = 0 then ConP G p else ConP G q) (by decide) (by decide) ?_ ?_
  · intro i next i0 i1 hk hn
    have L : ((([p, q] : List XCone).length : Nat) : Int) = 2 := rfl
    rw [L, if_pos (decide_eq_true i1)]
    refine Ret.idx i0 (by rw [L]; exact i1) ?_
    rw [Option.bind_some]
    have e : i = 0 ∨ i = 1 := by omega
    rcases e with rfl | rfl
    · rw [show el [p, q] 0 = p from rfl]
      refine Ret.call (isCone_eq h sp) (Ret.ite (fun e => hn (by rw [if_pos rfl]; exact of_decide_eq_true e)) (fun e => Ret.some ?_))
      rw [if_neg fun z => e (decide_eq_true z.1)]
    · rw [show el [p, q] 1 = q from rfl]
      refine Ret.call (isCone_eq h sq) (Ret.ite (fun e => hn (by rw [if_neg (by decide)]; exact of_decide_eq_true e)) (fun e => Ret.some ?_))
      rw [if_neg fun z => e (decide_eq_true z.2)]
  · intro next hk
    have a := hk 0 (by decide) (by decide)
    have b := hk 1 (by decide) (by decide)
    rw [if_pos rfl] at a
    rw [if_neg (by decide)] at b
    rw [if_neg (by simp)]
    exact Ret.some (by rw [if_pos ⟨a, b⟩])
theorem mapsN_small (h : IsFun G) : Small (mapsN G q p) := by
  have hl := homL_len h.2.1.1.shp q.Apex p.Apex
  have := List.length_filter_le (fun u => decide (MapP G q p u)) (homL G.Target q.Apex p.Apex)
  unfold mapsN Small
  omega
end

theorem CoconeMaps_both {f : XFunctor} {p q : XCone} (sf : SmallF f) (sp : SmallN p) (sq : SmallN q) : ∃ r w, Small r ∧ M.spec_CoconeMaps f p q = some (r, w) ∧ M.impl_CoconeMaps f p q = some (r, w) := by
  by_cases h : IsFun f
  · have hG := opF_fun h
    by_cases c : ConP (opF f) p ∧ ConP (opF f) q
    · refine ⟨mapsN (opF f) q p, 0, mapsN_small hG, ?_, ?_⟩
      · unfold M.spec_CoconeMaps
        rw [l06Is_eq sf, decide_eq_true h, Option.bind_some, if_pos rfl, l06Op_eq sf h.1.1.shp h.2.1.1.shp, Option.bind_some, l12Two_eq hG sp sq, if_pos c, Option.bind_some, if_neg (by simp), l12Maps_eq hG c.1 c.2]; rfl
      · unfold M.impl_CoconeMaps M.impl_coconesOf M.impl_mapsBetween M.impl_cocones_maps
        rw [isFunctor_eq sf, decide_eq_true h, Option.bind_some, if_pos rfl, Functor_opposite_eq sf h.1.1.shp h.2.1.1.shp, Option.bind_some, Option.bind_some, coneCode_eq hG sp sq, if_pos c, Option.bind_some, if_neg (by simp)]
        dsimp only
        rw [coneMaps_eq hG c.1 c.2]; rfl
    · refine ⟨[], 5, by simp [Small], ?_, ?_⟩
      · unfold M.spec_CoconeMaps
        rw [l06Is_eq sf, decide_eq_true h, Option.bind_some, if_pos rfl, l06Op_eq sf h.1.1.shp h.2.1.1.shp, Option.bind_some, l12Two_eq hG sp sq, if_neg c]; rfl
      · unfold M.impl_CoconeMaps M.impl_coconesOf M.impl_mapsBetween
        rw [isFunctor_eq sf, decide_eq_true h, Option.bind_some, if_pos rfl, Functor_opposite_eq sf h.1.1.shp h.2.1.1.shp, Option.bind_some, Option.bind_some, coneCode_eq hG sp sq, if_neg c]; rfl
  · refine ⟨[], 1, by simp [Small], ?_, ?_⟩
    · unfold M.spec_CoconeMaps
      rw [l06Is_eq sf, decide_eq_false h]; rfl
    · unfold M.impl_CoconeMaps
      rw [isFunctor_eq sf, decide_eq_false h]; rfl

theorem law_CoconeMaps {a0 : XFunctor} {a1 : XCone} {a2 : XCone} (h0 : R.XFunctor a0) (h1 : R.XCone a1) (h2 : R.XCone a2) : M.laws_FnExactCoconeMaps a0 a1 a2 = some true := by
  unfold M.laws_FnExactCoconeMaps
  obtain ⟨v0, e0, hv0⟩ := szFunctor_r (n := 1048576) (by decide) (by decide) (fitsF h0)
  rw [e0, Option.bind_some]
  rcases hv0 with ⟨z0, _⟩ | ⟨l0, u0, s0⟩
  · rw [if_pos (decide_eq_true z0)]
  · rw [if_neg (fun h => absurd (of_decide_eq_true h) (by omega))]
    obtain ⟨v1, e1, hv1⟩ := szCone_r (n := v0) l0 (by omega) (fitsN h1)
    rw [e1, Option.bind_some]
    rcases hv1 with ⟨z1, _⟩ | ⟨l1, u1, s1⟩
    · rw [if_pos (decide_eq_true z1)]
    · rw [if_neg (fun h => absurd (of_decide_eq_true h) (by omega))]
      obtain ⟨v2, e2, hv2⟩ := szCone_r (n := v1) l1 (by omega) (fitsN h2)
      rw [e2, Option.bind_some]
      rcases hv2 with ⟨z2, _⟩ | ⟨l2, u2, s2⟩
      · rw [if_pos (decide_eq_true z2)]
      · rw [if_neg (fun h => absurd (of_decide_eq_true h) (by omega))]
        rw [toFunctor_eq s0, Option.bind_some, toCone_eq s1, Option.bind_some, toCone_eq s2, Option.bind_some]
        obtain ⟨g0, w, hg0, es, ei⟩ := CoconeMaps_both s0 s1 s2
        rw [es, ei]
        simp only [Option.bind_some]
        rw [eqInt64S_refl hg0, eqFunctor_refl s0, eqCone_refl s1, eqCone_refl s2]
        obtain ⟨n0, x0, p0, q0, c0, d0, _⟩ := mh_F s0 1 (by omega) (by omega)
        obtain ⟨n1, x1, p1, q1, c1, d1, _⟩ := mh_N s1 (1 + n0) (by omega) (by omega)
        obtain ⟨n2, x2, p2, q2, c2, d2, _⟩ := mh_N s2 (1 + n0 + n1) (by omega) (by omega)
        obtain ⟨n3, x3, p3, q3, c3, d3, _⟩ := mh_S hg0 1 (by omega) (by omega)
        simp only [Option.bind_some, bne_self_eq_false, Bool.false_eq_true, if_false, if_true, decide_eq_true_eq, c0, c1, c2, c3, d3]
        rw [if_neg (by omega), if_neg (by omega)]

end Go.Gx
