/- Laid together: part 2. -/
import Derived.Test.YtiikkfdehbcfaaaGxEP1
import Derived.Test.YtiikkfdehbcfaaaGxEP0
import Derived.Test.YtiikkfdehbcfaaaGxEM0
/- The law of ProfunctorOfCollage. -/
namespace Go.Gx
open Classical
set_option maxHeartbeats 1000000

theorem l02Part_eq {c : XCategory} {o : List Int} (h : Pick c o) : M.spec_l02Part c (fullL c o) = some (subC c o) := by
  apply Ret.eq
  have n0 := h.s.n0
  have n8 := h.s.n8
  have m40 := h.s.m40
  have lid := h.s.lid
  have lto := h.s.lto
  have lco := h.s.lco
  have lo := h.len
  have la := fullL_len c o
  have so : Small o := by unfold Small; omega
  have sa : Small (fullL c o) := by unfold Small; omega
  unfold M.spec_l02Part
  refine fil_loop (n := c.Objects) (p := fun x => decide (el c.Identity x ∈ fullL c o)) n0 (by omega) ?_ ?_
  · intro x next x0 x1 hs hy hn
    dsimp only
    rw [if_pos (decide_eq_true x1)]
    refine Ret.idx x0 (by omega) (Ret.call (l01Has_eq sa _) (Ret.ite (fun h1 => Ret.chk ?_ (hy h1)) (fun h1 => hn (Bool.eq_false_iff.2 h1))))
    unfold lim; simp only [List.length_cons, List.length_nil]; omega
  intro next
  dsimp only
  rw [if_neg (by simp), h.objs]
  refine map_loop (l := o) (F := fun x => indexL (fullL c o) (el c.Identity x)) so ?_ ?_
  · intro i s next i0 i1 hs hn
    have hx := h.inn (el_mem i0 i1)
    dsimp only
    rw [if_pos (decide_eq_true i1)]
    refine Ret.idx i0 i1 (Ret.idx hx.1 (by omega) (Ret.call (l01Index_eq sa _) (Ret.chk ?_ hn)))
    unfold lim; simp only [List.length_cons, List.length_nil]; omega
  intro next
  dsimp only
  rw [if_neg (by simp)]
  refine Ret.loop ((fullL c o).length : Int) (fun i s => s = (((fullL c o).take i.toNat).map (fun f => indexL o (el c.From f)), ((fullL c o).take i.toNat).map (fun f => indexL o (el c.To f)),
      ((fullL c o).take i.toNat).map (fun f => (fullL c o).map fun g => indexL (fullL c o) (cmp c f g)), i)) (by omega) (by omega) rfl ?_ ?_
  · rintro i s next i0 i1 rfl hn
    have mf := fullL_mem.1 (el_mem i0 i1)
    have rf := h.s.row _ mf.1 mf.2.1
    dsimp only
    rw [if_pos (decide_eq_true i1)]
    have l1 : ∀ {α : Type} (F : Int → α), ((((fullL c o).take i.toNat).map F).length : Int) ≤ 40 := fun F => by rw [List.length_map, List.length_take]; omega
    have l2 := l1 fun f => indexL o (el c.From f)
    have l3 := l1 fun f => indexL o (el c.To f)
    have l4 := l1 fun f => (fullL c o).map fun g => indexL (fullL c o) (cmp c f g)
    refine Ret.idx i0 i1 (Ret.idx mf.1 mf.2.1 (Ret.call (l01Index_eq so _) (Ret.chk (by unfold lim; simp only [List.length_cons, List.length_nil]; omega) ?_)))
    refine Ret.idx mf.1 (by omega) (Ret.call (l01Index_eq so _) (Ret.chk (by unfold lim; simp only [List.length_cons, List.length_nil]; omega) ?_))
    refine map_loop (l := fullL c o) (F := fun g => indexL (fullL c o) (cmp c (el (fullL c o) i) g)) sa ?_ ?_
    · intro j s next j0 j1 hs hn2
      have mg := fullL_mem.1 (el_mem j0 j1)
      dsimp only
      rw [if_pos (decide_eq_true j1)]
      refine Ret.idx mf.1 (by omega) (Ret.idx j0 j1 (Ret.idx mg.1 (by omega) (Ret.call (l01Index_eq sa _) (Ret.chk ?_ hn2))))
      unfold lim; simp only [List.length_cons, List.length_nil]; omega
    · intro next
      dsimp only
      rw [if_neg (by simp)]
      refine Ret.chk (by unfold lim; omega) (hn _ ?_)
      rw [take_succ_el i0 i1, List.map_append, List.map_append, List.map_append, wrap_in (by omega) (by omega)]; rfl
  · rintro s next rfl
    dsimp only
    rw [if_neg (by simp), show ((fullL c o).length : Int).toNat = (fullL c o).length by omega, List.take_length]
    exact Ret.some rfl

/-- The places of the arrows that have been numbered. -/
noncomputable def numA (m : Int) (a : List Int) (i : Int) : List Int := tab m fun f => if f ∈ a.take i.toNat then indexL a f else 0
theorem numA_len {m : Int} (m0 : 0 ≤ m) (a : List Int) (i : Int) : ((numA m a i).length : Int) = m := tab_len' _ _ m0
theorem numA_at {m : Int} {a : List Int} {f : Int} (f0 : 0 ≤ f) (f1 : f < m) (hf : f ∈ a) : el (numA m a (a.length : Int)) f = indexL a f := by
  unfold numA
  rw [el_tab f0 f1, show ((a.length : Int)).toNat = a.length by omega, List.take_length, if_pos hf]
noncomputable def mrkA (m : Int) (a : List Int) (i : Int) : List Bool := tab m fun f => decide (f ∈ a.take i.toNat)

theorem mem_take_succ {a : List Int} {i f : Int} (i0 : 0 ≤ i) (i1 : i < (a.length : Int)) : f ∈ a.take (i + 1).toNat ↔ f ∈ a.take i.toNat ∨ f = el a i := by
  rw [take_succ_el i0 i1, List.mem_append]
  simp

theorem marks_eq {c : XCategory} (h : Shp c) {a : List Int} (sa : Small a) (ha : In (c.From.length : Int) a) : M.impl_Category_marks c a = some (mrkA (c.From.length : Int) a (a.length : Int)) := by
  apply Ret.eq
  have m40 := h.m40
  unfold M.impl_Category_marks M.impl_Category_arrows
  simp only [Option.bind_some]
  refine Ret.chk ⟨by omega, by unfold lim; omega⟩ ?_
  refine Ret.acc (a.length : Int) (fun i s => s = mrkA (c.From.length : Int) a i) (by omega) (by omega) ?_ ?_ ?_
  · rw [rep_tab]
    unfold mrkA
    apply tab_congr
    intro f f0 f1
    simp
  · rintro i s next i0 i1 rfl hn
    have hx := ha i i0 i1
    have hl : ((mrkA (c.From.length : Int) a i).length : Int) = (c.From.length : Int) := tab_len' _ _ (by omega)
    dsimp only
    rw [if_pos (decide_eq_true i1)]
    refine Ret.idx i0 i1 (Ret.idx hx.1 (by omega) (hn _ ?_))
    unfold mrkA
    rw [set_tab hx.1]
    apply tab_congr
    intro f f0 f1
    by_cases hf : f = el a i
    · rw [if_pos hf, decide_eq_true ((mem_take_succ i0 i1).2 (Or.inr hf))]
    · rw [if_neg hf, decide_eq_decide, mem_take_succ i0 i1]
      exact ⟨Or.inl, fun x => x.resolve_right hf⟩
  · rintro s next rfl
    dsimp only
    rw [if_neg (by simp)]
    exact Ret.some rfl

theorem sub_eq {c : XCategory} {o : List Int} (h : Pick c o) : M.impl_Category_sub c (fullL c o) = some (subC c o, o) := by
  apply Ret.eq
  have n0 := h.s.n0
  have n8 := h.s.n8
  have m40 := h.s.m40
  have lid := h.s.lid
  have lto := h.s.lto
  have lco := h.s.lco
  have lo := h.len
  have la := fullL_len c o
  have so : Small o := by unfold Small; omega
  have sa : Small (fullL c o) := by unfold Small; omega
  have na := fullL_nodup c o
  have ina : In (c.From.length : Int) (fullL c o) := fun i i0 i1 => by
    have := fullL_mem.1 (el_mem i0 i1)
    exact ⟨this.1, this.2.1⟩
  unfold M.impl_Category_sub M.impl_Category_arrows
  simp only [Option.bind_some]
  refine Ret.chk ⟨by omega, by unfold lim; omega⟩ ?_
  refine Ret.acc ((fullL c o).length : Int) (fun i s => s = numA (c.From.length : Int) (fullL c o) i) (by omega) (by omega) ?_ ?_ ?_
  · rw [rep_tab]
    unfold numA
    apply tab_congr
    intro f f0 f1
    simp
  · rintro i s next i0 i1 rfl hn
    have hx := ina i i0 i1
    have hl := numA_len (m := (c.From.length : Int)) (by omega) (fullL c o) i
    dsimp only
    rw [if_pos (decide_eq_true i1)]
    refine Ret.idx i0 i1 (Ret.idx hx.1 (by omega) (hn _ ?_))
    unfold numA
    rw [set_tab hx.1]
    apply tab_congr
    intro f f0 f1
    by_cases hf : f = el (fullL c o) i
    · rw [if_pos hf, if_pos ((mem_take_succ i0 i1).2 (Or.inr hf)), hf, indexL_el sa na i0 i1]
    · rw [if_neg hf]
      by_cases hm : f ∈ (fullL c o).take i.toNat
      · rw [if_pos hm, if_pos ((mem_take_succ i0 i1).2 (Or.inl hm))]
      · rw [if_neg hm, if_neg (fun x => hm (((mem_take_succ i0 i1).1 x).resolve_right hf))]
  rintro s next rfl
  dsimp only
  rw [if_neg (by simp)]
  have hnl := numA_len (m := (c.From.length : Int)) (by omega) (fullL c o) ((fullL c o).length : Int)
  have hml : ((mrkA (c.From.length : Int) (fullL c o) ((fullL c o).length : Int)).length : Int) = (c.From.length : Int) := tab_len' _ _ (by omega)
  have hmk : ∀ f, 0 ≤ f → f < (c.From.length : Int) → el (mrkA (c.From.length : Int) (fullL c o) ((fullL c o).length : Int)) f = decide (f ∈ fullL c o) := fun f f0 f1 => by
    unfold mrkA
    rw [el_tab f0 f1, show (((fullL c o).length : Int)).toNat = (fullL c o).length by omega, List.take_length]
  refine Ret.call (marks_eq h.s sa ina) (Ret.chk ⟨by omega, by unfold lim; omega⟩ ?_)
  refine Ret.loop (c.Identity.length : Int) (fun x s => s = (fil x (fun x => decide (el c.Identity x ∈ fullL c o)), tab c.Objects (fun y => if y < x ∧ el c.Identity y ∈ fullL c o then indexL o y else 0),
      (fil x (fun x => decide (el c.Identity x ∈ fullL c o))).map (fun x => indexL (fullL c o) (el c.Identity x)), x)) (by omega) (by omega) ?_ ?_ ?_
  · refine Prod.ext rfl (Prod.ext ?_ rfl)
    dsimp only
    rw [rep_tab]
    apply tab_congr
    intro y y0 y1
    rw [if_neg (fun x => by omega)]
  · rintro x s next x0 x1 rfl hn
    have i := h.s.id_in x x0 (by omega)
    have hle := fil_length_le x fun x => decide (el c.Identity x ∈ fullL c o)
    have hle2 : (((fil x fun x => decide (el c.Identity x ∈ fullL c o)).map fun x => indexL (fullL c o) (el c.Identity x)).length : Int) ≤ x := by rw [List.length_map]; omega
    have lp : ((tab c.Objects fun y => if y < x ∧ el c.Identity y ∈ fullL c o then indexL o y else 0).length : Int) = c.Objects := tab_len' _ _ n0
    dsimp only
    rw [if_pos (decide_eq_true x1)]
    refine Ret.idx x0 (by omega) (Ret.idx i.1 (by omega) ?_)
    rw [hmk _ i.1 i.2]
    refine Ret.ite (fun hb => ?_) (fun hb => hn _ ?_)
    · have hm := of_decide_eq_true hb
      refine Ret.idx x0 (by omega) (Ret.chk (by unfold lim; simp only [List.length_cons, List.length_nil]; omega) (Ret.idx i.1 (by omega) (Ret.chk (by unfold lim; simp only [List.length_cons, List.length_nil]; omega) (hn _ ?_))))
      rw [numA_at i.1 i.2 hm, fil_succ _ x0, hb, wrap_in (by omega) (by omega)]
      have hpl := fil_place (n := c.Objects) (fun x => decide (el c.Identity x ∈ fullL c o)) x0 (by omega) hb (by omega)
      rw [h.objs] at hpl
      refine Prod.ext rfl (Prod.ext ?_ (Prod.ext ?_ rfl))
      · dsimp only
        rw [set_tab x0, ← hpl]
        apply tab_congr
        intro y y0 y1
        by_cases hy : y = x
        · subst hy; rw [if_pos rfl, if_pos ⟨by omega, hm⟩]
        · rw [if_neg hy]
          by_cases h2 : y < x ∧ el c.Identity y ∈ fullL c o
          · rw [if_pos h2, if_pos ⟨by omega, h2.2⟩]
          · rw [if_neg h2, if_neg (fun z => h2 ⟨by omega, z.2⟩)]
      · dsimp only
        simp
    · have hm : el c.Identity x ∉ fullL c o := fun z => hb (decide_eq_true z)
      rw [fil_succ _ x0, if_neg hb, List.append_nil, wrap_in (by omega) (by omega)]
      refine Prod.ext rfl (Prod.ext ?_ rfl)
      dsimp only
      apply tab_congr
      intro y y0 y1
      by_cases h2 : y < x ∧ el c.Identity y ∈ fullL c o
      · rw [if_pos h2, if_pos ⟨by omega, h2.2⟩]
      · rw [if_neg h2, if_neg (fun z => h2 ⟨by
          rcases Int.lt_trichotomy y x with q | q | q
          · exact q
          · subst q; exact absurd z.2 hm
          · omega, z.2⟩)]
  rintro s next rfl
  dsimp only
  rw [if_neg (by simp), lid, h.objs]
  have lp : ((tab c.Objects fun y => if y < c.Objects ∧ el c.Identity y ∈ fullL c o then indexL o y else 0).length : Int) = c.Objects := tab_len' _ _ n0
  have ep : ∀ y, y ∈ o → el (tab c.Objects fun y => if y < c.Objects ∧ el c.Identity y ∈ fullL c o then indexL o y else 0) y = indexL o y := fun y hy => by
    have b := h.inn hy
    rw [el_tab b.1 b.2, if_pos ⟨b.2, (h.id b.1 b.2).2 hy⟩]
  refine Ret.loop ((fullL c o).length : Int) (fun i s => s = (((fullL c o).take i.toNat).map (fun f => indexL o (el c.From f)), ((fullL c o).take i.toNat).map (fun f => indexL o (el c.To f)),
      ((fullL c o).take i.toNat).map (fun f => (fullL c o).map fun g => indexL (fullL c o) (cmp c f g)), i)) (by omega) (by omega) rfl ?_ ?_
  · rintro i s next i0 i1 rfl hn
    have hf : el (fullL c o) i ∈ fullL c o := el_mem i0 i1
    have mf := fullL_mem.1 hf
    have rf := h.s.row _ mf.1 mf.2.1
    have bf := h.inn mf.2.2.1
    have bt := h.inn mf.2.2.2
    dsimp only
    rw [if_pos (decide_eq_true i1)]
    have l1 : ∀ {α : Type} (F : Int → α), ((((fullL c o).take i.toNat).map F).length : Int) ≤ 40 := fun F => by rw [List.length_map, List.length_take]; omega
    have l2 := l1 fun f => indexL o (el c.From f)
    have l3 := l1 fun f => indexL o (el c.To f)
    have l4 := l1 fun f => (fullL c o).map fun g => indexL (fullL c o) (cmp c f g)
    refine Ret.idx i0 i1 (Ret.idx mf.1 mf.2.1 (Ret.idx bf.1 (by omega) ?_))
    rw [ep _ mf.2.2.1]
    refine Ret.chk (by unfold lim; simp only [List.length_cons, List.length_nil]; omega) (Ret.idx mf.1 (by omega) (Ret.idx bt.1 (by omega) ?_))
    rw [ep _ mf.2.2.2]
    refine Ret.chk (by unfold lim; simp only [List.length_cons, List.length_nil]; omega) ?_
    refine map_loop (l := fullL c o) (F := fun g => indexL (fullL c o) (cmp c (el (fullL c o) i) g)) sa ?_ ?_
    · intro j s next j0 j1 hs hn2
      have hg : el (fullL c o) j ∈ fullL c o := el_mem j0 j1
      have mg := fullL_mem.1 hg
      dsimp only
      rw [if_pos (decide_eq_true j1)]
      refine Ret.idx j0 j1 (Ret.call (then_eq mf.1 (by omega) mg.1 (by omega)) (Ret.ite (fun hb => ?_) (fun hb => ?_)))
      · have hb := of_decide_eq_true hb
        have he : el c.To (el (fullL c o) i) = el c.From (el (fullL c o) j) := by
          apply Decidable.byContradiction
          intro hne
          have := h.s.no _ _ mf.1 mf.2.1 mg.1 mg.2.1 hne
          omega
        have y := h.s.yes _ _ mf.1 mf.2.1 mg.1 mg.2.1 he
        refine Ret.idx y.1 (by omega) ?_
        rw [numA_at y.1 y.2 (h.comp hf hg he)]
        exact Ret.chk (by unfold lim; simp only [List.length_cons, List.length_nil]; omega) hn2
      · have hb : ¬ cmp c (el (fullL c o) i) (el (fullL c o) j) ≥ 0 := fun x => hb (decide_eq_true x)
        have he : ¬ el c.To (el (fullL c o) i) = el c.From (el (fullL c o) j) := fun e => hb (h.s.yes _ _ mf.1 mf.2.1 mg.1 mg.2.1 e).1
        have e1 := h.s.no _ _ mf.1 mf.2.1 mg.1 mg.2.1 he
        have e2 : indexL (fullL c o) (cmp c (el (fullL c o) i) (el (fullL c o) j)) = cmp c (el (fullL c o) i) (el (fullL c o) j) := by
          rw [e1]
          exact indexL_no sa fun x => by have := (fullL_mem.1 x).1; omega
        rw [e2] at hn2
        exact Ret.chk (by unfold lim; simp only [List.length_cons, List.length_nil]; omega) hn2
    · intro next
      dsimp only
      rw [if_neg (by simp)]
      refine Ret.chk (by unfold lim; omega) (hn _ ?_)
      rw [take_succ_el i0 i1, List.map_append, List.map_append, List.map_append, wrap_in (by omega) (by omega)]; rfl
  · rintro s next rfl
    dsimp only
    rw [if_neg (by simp), show ((fullL c o).length : Int).toNat = (fullL c o).length by omega, List.take_length]
    exact Ret.some rfl

/-! ### the two halves -/
end Go.Gx

/- The law of SkeletonFunctor. -/
namespace Go.Gx
open Classical
set_option maxHeartbeats 1000000

/-! ### isomorphic objects -/
section
variable {c : XCategory}
def IsoR (c : XCategory) (x y : Int) : Prop := ∃ f, Ar c f x y ∧ 0 ≤ invA c f

theorem IsCat.assoc (h : IsCat c) {f g k x y z w : Int} (a : Ar c f x y) (b : Ar c g y z) (d : Ar c k z w) : cmp c (cmp c f g) k = cmp c f (cmp c g k) :=
  h.2.2 f g k a.p a.q b.p b.q d.p d.q (a.t.trans b.s.symm) (b.t.trans d.s.symm)
theorem IsCat.idl (h : IsCat c) {f x y : Int} (a : Ar c f x y) : cmp c (el c.Identity x) f = f := by
  have := (h.2.1 f a.p a.q).1
  rwa [a.s] at this
theorem IsCat.idr (h : IsCat c) {f x y : Int} (a : Ar c f x y) : cmp c f (el c.Identity y) = f := by
  have := (h.2.1 f a.p a.q).2
  rwa [a.t] at this
theorem InvP.flip {f g x y : Int} (a : Ar c f x y) (b : Ar c g y x) (h : InvP c f g) : InvP c g f := by
  unfold InvP at *
  rw [b.s, b.t]
  rw [a.s, a.t] at h
  exact ⟨h.2, h.1⟩
theorem IsoR.symm {x y : Int} (h : IsoR c x y) : IsoR c y x := by
  obtain ⟨f, a, i⟩ := h
  obtain ⟨b, p⟩ := invA_ar a i
  exact ⟨_, b, invA_of b a (p.flip a b)⟩
theorem IsoR.trans (hc : IsCat c) {x y z : Int} (h : IsoR c x y) (h' : IsoR c y z) : IsoR c x z := by
  have hs := hc.1.shp
  obtain ⟨f, a, i⟩ := h
  obtain ⟨g, b, k⟩ := h'
  obtain ⟨a', p⟩ := invA_ar a i
  obtain ⟨b', q⟩ := invA_ar b k
  refine ⟨cmp c f g, a.comp hs b, invA_of (a.comp hs b) (b'.comp hs a') ?_⟩
  unfold InvP at *
  rw [(a.comp hs b).s, (a.comp hs b).t]
  rw [a.s, a.t] at p
  rw [b.s, b.t] at q
  constructor
  · rw [hc.assoc a b (b'.comp hs a'), ← hc.assoc b b' a', ← q.1, hc.idl a', ← p.1]
  · rw [hc.assoc b' a' (a.comp hs b), ← hc.assoc a' a b, ← p.2, hc.idl b, ← q.2]
theorem iso_of_eqv (hc : IsCat c) {P : Int → Int → Prop} (hp : ∀ x y, P x y → IsoR c x y) {x y : Int} (e : Eqv P x y) : x = y ∨ IsoR c x y := by
  induction e with
  | of h => exact .inr (hp _ _ h)
  | refl x => exact .inl rfl
  | symm _ ih => exact ih.elim (fun h => .inl h.symm) fun h => .inr h.symm
  | trans _ _ ih1 ih2 =>
    rcases ih1 with rfl | h1
    · exact ih2
    · rcases ih2 with rfl | h2
      · exact .inr h1
      · exact .inr (h1.trans hc h2)
theorem isoA_iff {x y : Int} : 0 ≤ isoA c x y ↔ IsoR c x y := ⟨fun h => ⟨_, (isoA_yes h).1, (isoA_yes h).2⟩, fun ⟨_, a, i⟩ => isoA_of a i⟩
end

theorem pairAt_push {p : List (List Int)} {a b x y : Int} : PairAt (p ++ [[a, b]]) (((p ++ [[a, b]]).length : Nat) : Int) x y ↔ PairAt p (p.length : Int) x y ∨ (x = a ∧ y = b) := by
  have L : (((p ++ [[a, b]]).length : Nat) : Int) = (p.length : Int) + 1 := by simp
  have old : ∀ k, 0 ≤ k → k < (p.length : Int) → el (p ++ [[a, b]]) k = el p k := fun k k0 k1 => by
    unfold el
    rw [List.getD_eq_getElem?_getD, List.getD_eq_getElem?_getD, List.getElem?_append_left (by omega)]
  have new : el (p ++ [[a, b]]) (p.length : Int) = [a, b] := by
    unfold el
    rw [List.getD_eq_getElem?_getD]
    simp
  rw [L]
  constructor
  · rintro ⟨k, k0, k1, h⟩
    by_cases e : k = (p.length : Int)
    · subst e
      rw [new] at h
      exact .inr h
    · rw [old k k0 (by omega)] at h
      exact .inl ⟨k, k0, by omega, h⟩
  · rintro (⟨k, k0, k1, h⟩ | h)
    · exact ⟨k, k0, by omega, by rw [old k k0 k1]; exact h⟩
    · exact ⟨(p.length : Int), by omega, by omega, by rw [new]; exact h⟩
theorem pairsIn_push {n : Int} {p : List (List Int)} {a b : Int} (h : PairsIn n p) (a0 : 0 ≤ a) (a1 : a < n) (b0 : 0 ≤ b) (b1 : b < n) : PairsIn n (p ++ [[a, b]]) := by
  intro k k0 k1
  have L : (((p ++ [[a, b]]).length : Nat) : Int) = (p.length : Int) + 1 := by simp
  by_cases e : k = (p.length : Int)
  · have new : el (p ++ [[a, b]]) k = [a, b] := by
      subst e
      unfold el
      rw [List.getD_eq_getElem?_getD]
      simp
    rw [new]
    exact ⟨by simp, ⟨a0, a1⟩, ⟨b0, b1⟩⟩
  · have old : el (p ++ [[a, b]]) k = el p k := by
      unfold el
      rw [List.getD_eq_getElem?_getD, List.getD_eq_getElem?_getD, List.getElem?_append_left (by omega)]
    rw [old]
    exact h k k0 (by omega)

section
variable {c : XCategory}
def SkR (c : XCategory) (x y : Int) : Prop := ∃ f, 0 ≤ f ∧ f < (c.From.length : Int) ∧ 0 ≤ invA c f ∧ x = el c.From f ∧ y = el c.To f
theorem SkR.iso {x y : Int} (h : SkR c x y) : IsoR c x y := by
  obtain ⟨f, f0, f1, i, rfl, rfl⟩ := h
  exact ⟨f, .of f0 f1, i⟩
theorem IsoR.sk {x y : Int} (h : IsoR c x y) : SkR c x y := by
  obtain ⟨f, a, i⟩ := h
  exact ⟨f, a.p, a.q, i, a.s.symm, a.t.symm⟩

theorem l11Classes_r (hc : IsCat c) : Ret (M.spec_l11Classes c) fun r => ∃ l, r = nrm l ∧ (l.length : Int) = c.Objects ∧ Ker c.Objects (el l) (Eqv (SkR c)) := by
  have hs := hc.1.shp
  have n0 := hs.n0
  have n8 := hs.n8
  unfold M.spec_l11Classes
  refine Ret.acc c.Objects (fun i p => PairsIn c.Objects p ∧ (p.length : Int) ≤ 8 * i ∧ ∀ x y, PairAt p (p.length : Int) x y ↔ (0 ≤ x ∧ x < y ∧ y < i ∧ IsoR c y x)) n0 (by omega)
    ⟨fun k k0 k1 => by simp at k1; omega, by simp, fun x y => ⟨fun ⟨k, k0, k1, _⟩ => by simp at k1; omega, fun h => by omega⟩⟩ ?_ ?_
  · rintro i p next i0 i1 ⟨hp, hl, hq⟩ hn
    dsimp only
    rw [if_pos (decide_eq_true i1)]
    refine Ret.acc i (fun j p => PairsIn c.Objects p ∧ (p.length : Int) ≤ 8 * i + j ∧ ∀ x y, PairAt p (p.length : Int) x y ↔ ((0 ≤ x ∧ x < y ∧ y < i ∧ IsoR c y x) ∨ (y = i ∧ 0 ≤ x ∧ x < j ∧ IsoR c i x))) i0 (by omega)
      ⟨hp, by omega, fun x y => (hq x y).trans ⟨.inl, fun h => h.elim id fun h => by omega⟩⟩ ?_ ?_
    · rintro j p nx j0 j1 ⟨hp, hl, hq⟩ hn2
      dsimp only
      rw [if_pos (decide_eq_true j1)]
      refine Ret.call (l06Alike_eq hs _ _) (Ret.ite (fun e => Ret.chk (by unfold lim; omega) (hn2 _ ⟨?_, ?_, ?_⟩)) (fun e => hn2 _ ⟨hp, by omega, ?_⟩))
      · exact pairsIn_push hp j0 (by omega) i0 i1
      · simp only [List.length_append, List.length_cons, List.length_nil]; omega
      · have e := isoA_iff.1 (of_decide_eq_true e)
        intro x y
        rw [pairAt_push, hq]
        constructor
        · rintro ((h | h) | ⟨rfl, rfl⟩)
          · exact .inl h
          · exact .inr ⟨h.1, h.2.1, by omega, h.2.2.2⟩
          · exact .inr ⟨rfl, j0, by omega, e⟩
        · rintro (h | ⟨rfl, h0, h1, h2⟩)
          · exact .inl (.inl h)
          · by_cases z : x = j
            · exact .inr ⟨z, rfl⟩
            · exact .inl (.inr ⟨rfl, h0, by omega, h2⟩)
      · have e : ¬ IsoR c i j := fun z => e (decide_eq_true (isoA_iff.2 z))
        intro x y
        rw [hq]
        constructor
        · rintro (h | h)
          · exact .inl h
          · exact .inr ⟨h.1, h.2.1, by omega, h.2.2.2⟩
        · rintro (h | ⟨rfl, h0, h1, h2⟩)
          · exact .inl h
          · by_cases z : x = j
            · subst z; exact absurd h2 e
            · exact .inr ⟨rfl, h0, by omega, h2⟩
    · rintro p nx ⟨hp, hl, hq⟩
      dsimp only
      rw [if_neg (by simp)]
      refine hn _ ⟨hp, by omega, fun x y => (hq x y).trans ?_⟩
      constructor
      · rintro (h | ⟨rfl, h0, h1, h2⟩)
        · exact ⟨h.1, h.2.1, by omega, h.2.2.2⟩
        · exact ⟨h0, h1, by omega, h2⟩
      · rintro ⟨h0, h1, h2, h3⟩
        by_cases z : y = i
        · subst z; exact .inr ⟨rfl, h0, h1, h3⟩
        · exact .inl ⟨h0, h1, by omega, h3⟩
  · rintro p next ⟨hp, hl, hq⟩
    dsimp only
    rw [if_neg (by simp)]
    refine Ret.bindId (Ret.mono (l01Join_r n0 (by omega) (by omega) hp) ?_)
    rintro r ⟨l, rfl, hl, hk⟩
    refine ⟨l, rfl, hl, hk.congr fun x y => Eqv.congr (fun x y h => ?_) (fun x y h => ?_)⟩
    · exact .symm (.of ((hq x y).1 h).2.2.2.sk)
    · have hi := h.iso
      obtain ⟨f, f0, f1, i, e1, e2⟩ := h
      have s := hs.from_in f f0 f1
      have t := hs.to_in f f0 f1
      rcases Int.lt_trichotomy x y with q | q | q
      · exact .of ((hq x y).2 ⟨by omega, q, by omega, hi.symm⟩)
      · subst q; exact .refl _
      · exact .symm (.of ((hq y x).2 ⟨by omega, q, by omega, hi⟩))

theorem isoClasses_r (hc : IsCat c) : Ret (M.impl_Category_isoClasses c) fun r => ∃ l, r = nrm l ∧ (l.length : Int) = c.Objects ∧ Ker c.Objects (el l) (Eqv (SkR c)) := by
  have hs := hc.1.shp
  have n0 := hs.n0
  have n8 := hs.n8
  have m40 := hs.m40
  have lt := hs.lto
  unfold M.impl_Category_isoClasses
  refine Ret.call (joinerOf_eq n0 (by omega)) ?_
  refine Ret.acc (c.From.length : Int) (fun i j => (j.length : Int) = c.Objects ∧ ∃ ρ, UF j ρ ∧ Ker c.Objects ρ (Eqv fun x y => ∃ f, 0 ≤ f ∧ f < i ∧ 0 ≤ invA c f ∧ x = el c.From f ∧ y = el c.To f)) (by omega) (by omega)
    ⟨by rw [tab_length]; omega, fun x => x, UF.start _, (Ker.none fun i j _ _ _ _ e => e).congr fun x y => Eqv.congr (fun x y h => h.elim) fun x y ⟨f, f0, f1, _⟩ => by omega⟩ ?_ ?_
  · rintro i j next i0 i1 ⟨hl, ρ, hu, hk⟩ hn
    dsimp only
    rw [if_pos (decide_eq_true i1)]
    have s := hs.from_in i i0 i1
    have t := hs.to_in i i0 i1
    refine Ret.call (inverse_eq hs i0 i1) (Ret.ite (fun e => ?_) (fun e => hn _ ⟨hl, ρ, hu, hk.congr fun x y => Eqv.congr (fun x y ⟨f, f0, f1, h⟩ => .of ⟨f, f0, by omega, h⟩) (fun x y ⟨f, f0, f1, h⟩ => ?_)⟩))
    · have e := of_decide_eq_true e
      refine Ret.idx i0 i1 (Ret.idx i0 (by omega) (Ret.bind (join_r hu (by unfold Small; omega) (by rw [hl]; exact hk) s.1 (by omega) t.1 (by omega)) ?_))
      rintro ⟨b, j'⟩ ⟨ρ', hu', hl', hk'⟩
      dsimp only at hu' hl'
      rw [hl] at hk'
      refine hn _ ⟨by show (j'.length : Int) = _; omega, ρ', hu', hk'.congr fun x y => Eqv.congr (fun x y h => ?_) (fun x y ⟨f, f0, f1, h⟩ => ?_)⟩
      · rcases h with ⟨f, f0, f1, h⟩ | ⟨rfl, rfl⟩
        · exact .of ⟨f, f0, by omega, h⟩
        · exact .of ⟨i, i0, by omega, e, rfl, rfl⟩
      · by_cases z : f = i
        · subst z; exact .of (.inr h.2)
        · exact .of (.inl ⟨f, f0, by omega, h⟩)
    · have e : ¬ 0 ≤ invA c i := fun z => e (decide_eq_true z)
      by_cases z : f = i
      · subst z; exact absurd h.1 e
      · exact .of ⟨f, f0, by omega, h⟩
  · rintro j next ⟨hl, ρ, hu, hk⟩
    dsimp only
    rw [if_neg (by simp)]
    refine Ret.bind (partition_r hu (by unfold Small; omega)) ?_
    intro r hr
    refine Ret.some ⟨tab c.Objects ρ, by rw [hr, hl], by rw [tab_length]; omega, ?_⟩
    intro x y x0 x1 y0 y1
    rw [el_tab x0 x1, el_tab y0 y1]
    exact hk x y x0 x1 y0 y1

/-- The classes: numbered, and told apart by isomorphism. -/
structure Cls (c : XCategory) (p : List Int) : Prop where
  len : (p.length : Int) = c.Objects
  idem : nrm p = p
  ker : ∀ x y, 0 ≤ x → x < c.Objects → 0 ≤ y → y < c.Objects → (el p x = el p y ↔ Eqv (SkR c) x y)

theorem classes_both (hc : IsCat c) : ∃ p, Cls c p ∧ M.spec_l11Classes c = some p ∧ M.impl_Category_isoClasses c = some p := by
  obtain ⟨r, e, l, rfl, hl, hk⟩ := l11Classes_r hc
  obtain ⟨r', e', l', rfl, hl', hk'⟩ := isoClasses_r hc
  have n0 := hc.1.shp.n0
  have n8 := hc.1.shp.n8
  have sl : Small l := by unfold Small; omega
  have : nrm l = nrm l' := nrm_of_ker sl (by omega) (by rw [hl]; exact hk) (by rw [hl]; exact hk')
  refine ⟨nrm l, ⟨by rw [nrm_len]; exact hl, nrm_idem sl, fun x y x0 x1 y0 y1 => ?_⟩, e, by rw [this]; exact e'⟩
  rw [nrm_ker sl x0 (by omega) y0 (by omega)]
  exact hk x y x0 x1 y0 y1

section
variable {p : List Int}
theorem Cls.sm (hp : Cls c p) (hs : Shp c) : Small p := by have := hp.len; have := hs.n8; unfold Small; omega
theorem Cls.at (hp : Cls c p) {x : Int} (x0 : 0 ≤ x) (x1 : x < c.Objects) : el p x = cnt p (indexL p (el p x)) := by
  have := nrm_el (l := p) x0 (by have := hp.len; omega)
  rwa [hp.idem] at this
/-- The first object of the class of x. -/
noncomputable def fstO (p : List Int) (x : Int) : Int := indexL p (el p x)
theorem Cls.fst (hp : Cls c p) (hs : Shp c) {x : Int} (x0 : 0 ≤ x) (x1 : x < c.Objects) : (0 ≤ fstO p x ∧ fstO p x < c.Objects) ∧ ldr p (fstO p x) = true ∧ Eqv (SkR c) x (fstO p x) := by
  have f := first_spec (hp.sm hs) x0 (by have := hp.len; omega)
  have h1 : fstO p x < c.Objects := by unfold fstO; omega
  exact ⟨⟨f.1.1, h1⟩, ldr_first (hp.sm hs) x0 (by have := hp.len; omega), (hp.ker x _ x0 x1 f.1.1 h1).1 f.2.1.symm⟩
theorem ldr_fst {x : Int} : ldr p x = true ↔ fstO p x = x := by unfold ldr fstO; rw [beq_iff_eq]

noncomputable def skO (c : XCategory) (p : List Int) : List Int := fil c.Objects (ldr p)
theorem skO_pick (hs : Shp c) : Pick c (skO c p) := ⟨hs, by
  unfold skO
  apply fil_congr
  intro x x0 x1
  rw [Bool.eq_iff_iff, decide_eq_true_iff, fil_mem]
  exact ⟨fun h => ⟨x0, x1, h⟩, fun h => h.2.2⟩⟩

theorem l11Skeleton_eq (hs : Shp c) (hp : Cls c p) (e : M.spec_l11Classes c = some p) : M.spec_l11Skeleton c = some (skO c p) := by
  apply Ret.eq
  have n0 := hs.n0
  have n8 := hs.n8
  have hl := hp.len
  unfold M.spec_l11Skeleton
  refine Ret.call e ?_
  refine fil_loop (n := c.Objects) (p := ldr p) n0 (by omega) ?_ ?_
  · intro x next x0 x1 hs' hy hn
    dsimp only
    rw [if_pos (decide_eq_true x1)]
    refine Ret.idx x0 (by omega) (Ret.call (l01Index_eq (hp.sm hs) _) (Ret.ite (fun h => Ret.chk ?_ (hy h)) (fun h => hn (Bool.eq_false_iff.2 h))))
    unfold lim; simp only [List.length_cons, List.length_nil]; omega
  · intro next
    dsimp only
    rw [if_neg (by simp)]
    exact Ret.some rfl
theorem leaders_eq (hs : Shp c) (hp : Cls c p) : M.impl_partition_leaders p = some (skO c p) := by
  apply Ret.eq
  have n0 := hs.n0
  have n8 := hs.n8
  have hl := hp.len
  unfold M.impl_partition_leaders
  rw [hl]
  refine fil_loop (n := c.Objects) (p := ldr p) n0 (by omega) ?_ ?_
  · intro x next x0 x1 hs' hy hn
    have f := hp.fst hs x0 x1
    have hat : el p x = cnt p (fstO p x) := hp.at x0 x1
    have f1 := first_spec (hp.sm hs) x0 (by omega)
    have hle : fstO p x ≤ x := f1.1.2
    dsimp only
    rw [if_pos (decide_eq_true x1)]
    refine Ret.idx x0 (by omega) ?_
    rw [hat]
    by_cases h : ldr p x = true
    · rw [ldr_fst.1 h]
      have : (cnt p x == ((fil x (ldr p)).length : Int)) = true := beq_iff_eq.2 rfl
      rw [this, if_pos rfl]
      refine Ret.chk ?_ (hy h)
      unfold lim; simp only [List.length_cons, List.length_nil]; omega
    · have hne : fstO p x ≠ x := fun z => h (ldr_fst.2 z)
      have := cnt_lt (l := p) f.1.1 (show fstO p x < x by omega) f.2.1
      rw [if_neg (fun z => by
        have z : cnt p (fstO p x) = cnt p x := beq_iff_eq.1 z
        omega)]
      exact hn (Bool.eq_false_iff.2 h)
  · intro next
    dsimp only
    rw [if_neg (by simp)]
    exact Ret.some rfl

/-- The chosen isomorphism to the first object of the class. -/
noncomputable def chA (c : XCategory) (p : List Int) (x : Int) : Int := if x = fstO p x then el c.Identity x else isoA c x (fstO p x)
theorem chA_ar (hc : IsCat c) (hp : Cls c p) {x : Int} (x0 : 0 ≤ x) (x1 : x < c.Objects) : Ar c (chA c p x) x (fstO p x) ∧ 0 ≤ invA c (chA c p x) := by
  have hs := hc.1.shp
  have f := hp.fst hs x0 x1
  unfold chA
  by_cases h : x = fstO p x
  · rw [if_pos h]
    have a := Ar.one hs x0 x1
    refine ⟨by rw [← h]; exact a, invA_of a a ?_⟩
    unfold InvP
    rw [a.s, a.t, hc.idl a]
    exact ⟨rfl, rfl⟩
  · rw [if_neg h]
    rcases iso_of_eqv hc (fun _ _ z => z.iso) f.2.2 with z | z
    · exact absurd z h
    · exact isoA_yes (isoA_iff.2 z)
noncomputable def chL (c : XCategory) (p : List Int) : List Int := tab c.Objects (chA c p)

theorem l11Chosen_eq (hs : Shp c) (hp : Cls c p) (e : M.spec_l11Classes c = some p) : M.spec_l11Chosen c = some (chL c p) := by
  apply Ret.eq
  have n0 := hs.n0
  have n8 := hs.n8
  have hl := hp.len
  have li := hs.lid
  unfold M.spec_l11Chosen
  refine Ret.call e ?_
  refine Ret.acc c.Objects (fun i s => s = tab i (chA c p)) n0 (by omega) rfl ?_ ?_
  · rintro i s next i0 i1 rfl hn
    have ht : (((tab i (chA c p)).length : Nat) : Int) = i := by rw [tab_length]; omega
    dsimp only
    rw [if_pos (decide_eq_true i1)]
    refine Ret.idx i0 (by omega) (Ret.call (l01Index_eq (hp.sm hs) _) (Ret.ite (fun h => ?_) (fun h => ?_)))
    · have h : i = fstO p i := beq_iff_eq.1 h
      refine Ret.idx i0 (by omega) (Ret.chk (by unfold lim; simp only [List.length_cons, List.length_nil]; omega) (hn _ ?_))
      rw [tab_succ _ i0]
      have : chA c p i = el c.Identity i := by unfold chA; rw [if_pos h]
      rw [this]
    · have h : ¬ i = fstO p i := fun z => h (beq_iff_eq.2 z)
      refine Ret.call (l11Least_eq hs _ _) (Ret.chk (by unfold lim; simp only [List.length_cons, List.length_nil]; omega) (hn _ ?_))
      rw [tab_succ _ i0]
      have : chA c p i = isoA c i (fstO p i) := by unfold chA; rw [if_neg h]
      rw [this]; rfl
  · rintro s next rfl
    dsimp only
    rw [if_neg (by simp)]
    exact Ret.some rfl
theorem skO_at (hs : Shp c) (hp : Cls c p) {x : Int} (x0 : 0 ≤ x) (x1 : x < c.Objects) : (0 ≤ el p x ∧ el p x < ((skO c p).length : Int)) ∧ el (skO c p) (el p x) = fstO p x ∧ indexL (skO c p) (fstO p x) = el p x := by
  have f := hp.fst hs x0 x1
  have n8 := hs.n8
  have hat : el p x = cnt p (fstO p x) := hp.at x0 x1
  have c1 := cnt_lt (l := p) f.1.1 f.1.2 f.2.1
  have c0 := cnt_le (l := p) f.1.1
  have L : ((skO c p).length : Int) = cnt p c.Objects := rfl
  refine ⟨⟨by omega, by omega⟩, ?_, ?_⟩
  · rw [hat]; exact fil_el (ldr p) f.1.1 f.1.2 f.2.1 (by omega)
  · rw [hat]; exact fil_place (ldr p) f.1.1 f.1.2 f.2.1 (by omega)

theorem chosen_eq (hs : Shp c) (hp : Cls c p) (e : M.impl_Category_isoClasses c = some p) : M.impl_Category_chosen c = some (chL c p) := by
  apply Ret.eq
  have n0 := hs.n0
  have n8 := hs.n8
  have hl := hp.len
  have li := hs.lid
  unfold M.impl_Category_chosen
  refine Ret.call e (Ret.call (leaders_eq hs hp) ?_)
  rw [hl]
  refine Ret.acc c.Objects (fun i s => s = tab i (chA c p)) n0 (by omega) rfl ?_ ?_
  · rintro i s next i0 i1 rfl hn
    have ht : (((tab i (chA c p)).length : Nat) : Int) = i := by rw [tab_length]; omega
    have sk := skO_at hs hp i0 i1
    dsimp only
    rw [if_pos (decide_eq_true i1)]
    refine Ret.idx i0 (by omega) (Ret.idx sk.1.1 sk.1.2 ?_)
    rw [sk.2.1]
    refine Ret.ite (fun h => ?_) (fun h => ?_)
    · have h : i = fstO p i := beq_iff_eq.1 h
      refine Ret.idx i0 (by omega) (Ret.chk (by unfold lim; simp only [List.length_cons, List.length_nil]; omega) (hn _ ?_))
      rw [tab_succ _ i0]
      have : chA c p i = el c.Identity i := by unfold chA; rw [if_pos h]
      rw [this]
    · have h : ¬ i = fstO p i := fun z => h (beq_iff_eq.2 z)
      refine Ret.call (isomorphic_eq hs _ _) (Ret.chk (by unfold lim; simp only [List.length_cons, List.length_nil]; omega) (hn _ ?_))
      rw [tab_succ _ i0]
      have : chA c p i = isoA c i (fstO p i) := by unfold chA; rw [if_neg h]
      rw [this]
  · rintro s next rfl
    dsimp only
    rw [if_neg (by simp)]
    exact Ret.some rfl

/-! ### the functor to the skeleton -/
noncomputable def skA (c : XCategory) (p : List Int) (f : Int) : Int := indexL (fullL c (skO c p)) (cmp c (cmp c (invA c (chA c p (el c.From f))) f) (chA c p (el c.To f)))
noncomputable def skF (c : XCategory) (p : List Int) : XFunctor := ⟨c, subC c (skO c p), p, tab (c.From.length : Int) (skA c p)⟩

theorem sk_ar (hc : IsCat c) (hp : Cls c p) {f : Int} (f0 : 0 ≤ f) (f1 : f < (c.From.length : Int)) :
    Ar c (chA c p (el c.From f)) (el c.From f) (fstO p (el c.From f)) ∧ Ar c (invA c (chA c p (el c.From f))) (fstO p (el c.From f)) (el c.From f) ∧ Ar c (cmp c (invA c (chA c p (el c.From f))) f) (fstO p (el c.From f)) (el c.To f) ∧ Ar c (chA c p (el c.To f)) (el c.To f) (fstO p (el c.To f)) := by
  have hs := hc.1.shp
  have s := hs.from_in f f0 f1
  have t := hs.to_in f f0 f1
  have a := chA_ar hc hp s.1 s.2
  have b := chA_ar hc hp t.1 t.2
  have i := (invA_ar a.1 a.2).1
  exact ⟨a.1, i, i.comp hs (Ar.of f0 f1), b.1⟩

theorem subC_small {o : List Int} (h : Pick c o) : SmallC (subC c o) := (subC_shp h).small
end
end

theorem SkeletonFunctor_both {c : XCategory} (sc : SmallC c) : ∃ r w, SmallF r ∧ M.spec_SkeletonFunctor c = some (r, w) ∧ M.impl_SkeletonFunctor c = some (r, w) := by
  by_cases h : IsCat c
  · have hs := h.1.shp
    have n0 := hs.n0
    have n8 := hs.n8
    have m40 := hs.m40
    have lt := hs.lto
    obtain ⟨p, hp, e1, e2⟩ := classes_both h
    have hl := hp.len
    have pk := skO_pick (p := p) hs
    have ss := subC_small pk
    have so : Small (skO c p) := by have := pk.len; unfold Small; omega
    have sa : Small (fullL c (skO c p)) := by have := fullL_len c (skO c p); unfold Small; omega
    have Lc : ((chL c p).length : Int) = c.Objects := tab_len' _ _ n0
    have ec : ∀ x, 0 ≤ x → x < c.Objects → el (chL c p) x = chA c p x := fun x x0 x1 => by unfold chL; exact el_tab x0 x1
    refine ⟨skF c p, 0, ⟨sc, ss, hp.sm hs, ?_⟩, ?_, ?_⟩
    · unfold skF Small
      dsimp only
      rw [tab_length]; omega
    · apply Ret.eq
      unfold M.spec_SkeletonFunctor
      refine Ret.call (l02Is_eq sc) ?_
      rw [if_pos (decide_eq_true h)]
      refine Ret.call (l11Skeleton_eq hs hp e1) (Ret.call (l02Full_eq hs so) (Ret.call (l11Chosen_eq hs hp e1) ?_))
      refine Ret.acc c.Objects (fun i s => s = tab i (el p)) n0 (by omega) rfl ?_ ?_
      · rintro i s next i0 i1 rfl hn
        have ht : (((tab i (el p)).length : Nat) : Int) = i := by rw [tab_length]; omega
        have a := chA_ar h hp i0 i1
        dsimp only
        rw [if_pos (decide_eq_true i1)]
        refine Ret.idx i0 (by omega) ?_
        rw [ec i i0 i1]
        have aq := a.1.q
        refine Ret.idx a.1.p (by omega) ?_
        rw [a.1.t]
        refine Ret.call (l01Index_eq so _) (Ret.chk (by unfold lim; simp only [List.length_cons, List.length_nil]; omega) (hn _ ?_))
        rw [tab_succ _ i0, (skO_at hs hp i0 i1).2.2]
      rintro s next rfl
      dsimp only
      rw [if_neg (by simp)]
      refine Ret.acc (c.From.length : Int) (fun i s => s = tab i (skA c p)) (by omega) (by omega) rfl ?_ ?_
      · rintro i s next i0 i1 rfl hn
        have ht : (((tab i (skA c p)).length : Nat) : Int) = i := by rw [tab_length]; omega
        have s := hs.from_in i i0 i1
        have t := hs.to_in i i0 i1
        obtain ⟨b1, b2, b3, b4⟩ := sk_ar h hp i0 i1
        dsimp only
        rw [if_pos (decide_eq_true i1)]
        refine Ret.idx i0 i1 (Ret.idx s.1 (by omega) ?_)
        rw [ec _ s.1 s.2]
        refine Ret.call (l02Inverse_eq hs b1.p b1.q) (Ret.call (b2.th hs (Ar.of i0 i1)) (Ret.idx i0 (by omega) (Ret.idx t.1 (by omega) ?_)))
        rw [ec _ t.1 t.2]
        refine Ret.call (b3.th hs b4) (Ret.call (l01Index_eq sa _) (Ret.chk (by unfold lim; simp only [List.length_cons, List.length_nil]; omega) (hn _ (tab_succ (skA c p) i0).symm)))
      · rintro s next rfl
        have ht : (((tab (c.From.length : Int) (skA c p)).length : Nat) : Int) = (c.From.length : Int) := by rw [tab_length]; omega
        dsimp only
        rw [if_neg (by simp)]
        have ep : M.spec_l11Part c = some (subC c (skO c p)) := by
          unfold M.spec_l11Part
          rw [l11Skeleton_eq hs hp e1, Option.bind_some, l02Full_eq hs so, Option.bind_some, l02Part_eq pk]; rfl
        refine Ret.call ep (Ret.call (l06Make_eq sc ss (by rw [← hl, tab_el]; exact hp.sm hs) (by unfold Small; omega)) (Ret.some ?_))
        rw [← hl, tab_el]; rfl
    · apply Ret.eq
      unfold M.impl_SkeletonFunctor
      refine Ret.call (isCategory_eq sc) ?_
      rw [if_pos (decide_eq_true h)]
      unfold M.impl_Category_toSkeleton M.impl_Category_skeletonArrows
      rw [e2, Option.bind_some, leaders_eq hs hp, Option.bind_some, between_eq hs so, Option.bind_some, Option.bind_some, sub_eq pk, Option.bind_some, chosen_eq hs hp e2, Option.bind_some]
      refine Ret.bind (P := fun r => r = skF c p) ?_ (fun r hr => Ret.some (by rw [hr]))
      refine Ret.acc (c.From.length : Int) (fun i s => s = tab i (skA c p)) (by omega) (by omega) rfl ?_ ?_
      · rintro i s next i0 i1 rfl hn
        have ht : (((tab i (skA c p)).length : Nat) : Int) = i := by rw [tab_length]; omega
        have s := hs.from_in i i0 i1
        have t := hs.to_in i i0 i1
        obtain ⟨b1, b2, b3, b4⟩ := sk_ar h hp i0 i1
        dsimp only
        rw [if_pos (decide_eq_true i1)]
        refine Ret.idx i0 i1 (Ret.idx s.1 (by omega) ?_)
        rw [ec _ s.1 s.2]
        refine Ret.call (inverse_eq hs b1.p b1.q) (Ret.call (b2.ti hs (Ar.of i0 i1)) (Ret.idx i0 (by omega) (Ret.idx t.1 (by omega) ?_)))
        rw [ec _ t.1 t.2]
        refine Ret.call (b3.ti hs b4) (Ret.call (index_eq sa _) (Ret.chk (by unfold lim; simp only [List.length_cons, List.length_nil]; omega) (hn _ (tab_succ (skA c p) i0).symm)))
      · rintro s next rfl
        have ht : (((tab (c.From.length : Int) (skA c p)).length : Nat) : Int) = (c.From.length : Int) := by rw [tab_length]; omega
        dsimp only
        rw [if_neg (by simp)]
        exact Ret.call rfl (Ret.call (functor_eq sc ss (hp.sm hs) (by unfold Small; omega)) (Ret.some rfl))
  · refine ⟨zeroF, 1, zeroF_small, ?_, ?_⟩
    · unfold M.spec_SkeletonFunctor
      rw [l02Is_eq sc, decide_eq_false h]; rfl
    · unfold M.impl_SkeletonFunctor
      rw [isCategory_eq sc, decide_eq_false h]; rfl

theorem law_SkeletonFunctor {a0 : XCategory} (h0 : R.XCategory a0) : M.laws_FnExactSkeletonFunctor a0 = some true := by
  unfold M.laws_FnExactSkeletonFunctor
  obtain ⟨v0, e0, hv0⟩ := szCategory_r (n := 1048576) (by decide) (by decide) (fitsC h0)
  rw [e0, Option.bind_some]
  rcases hv0 with ⟨z0, _⟩ | ⟨l0, u0, s0⟩
  · rw [if_pos (decide_eq_true z0)]
  · rw [if_neg (fun h => absurd (of_decide_eq_true h) (by omega))]
    rw [toCategory_eq s0, Option.bind_some]
    obtain ⟨g0, w, hg0, es, ei⟩ := SkeletonFunctor_both s0
    rw [es, ei]
    simp only [Option.bind_some]
    rw [eqFunctor_refl hg0, eqCategory_refl s0]
    obtain ⟨n0, x0, p0, q0, c0, d0, _⟩ := mh_C s0 1 (by omega) (by omega)
    obtain ⟨n1, x1, p1, q1, c1, d1, _⟩ := mh_F hg0 1 (by omega) (by omega)
    simp only [Option.bind_some, bne_self_eq_false, Bool.false_eq_true, if_false, if_true, decide_eq_true_eq, c0, c1, d1]
    rw [if_neg (by omega), if_neg (by omega)]

end Go.Gx
