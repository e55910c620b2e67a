/- Laid together: part 2. -/
import Derived.Test.YtiikkfdehbcfaaaGxEP1
import Derived.Test.YtiikkfdehbcfaaaGxEM0
/- The law of ProfunctorOfCollage. -/
namespace Go.Gx
open Classical
set_option maxHeartbeats 1000000

/-- The places of the arrows that have been numbered. -/
noncomputable def numA (m : Int) (a : List Int) (i : Int) : List Int := tab m fun f => if f ∈ a.take i.toNat then indexL a f else 0
theorem numA_len {m : Int} (m0 : 0 ≤ m) (a : List Int) (i : Int) : ((numA m a i).length : Int) = m := tab_len' _ _ m0
theorem numA_at {m : Int} {a : List Int} {f : Int} (f0 : 0 ≤ f) (f1 : f < m) (hf : f ∈ a) : el (numA m a (a.length : Int)) f = indexL a f := by
  unfold numA
  rw [el_tab f0 f1, show ((a.length : Int)).toNat = a.length by omega, List.take_length, if_pos hf]
noncomputable def mrkA (m : Int) (a : List Int) (i : Int) : List Bool := tab m fun f => decide (f ∈ a.take i.toNat)

theorem mem_take_succ {a : List Int} {i f : Int} (i0 : 0 ≤ i) (i1 : i < (a.length : Int)) : f ∈ a.take (i + 1).toNat ↔ f ∈ a.take i.toNat ∨ f = el a i := by
  rw [take_succ_el i0 i1, List.mem_append]
  simp

theorem marks_eq {c : XCategory} (h : Shp c) {a : List Int} (sa : Small a) (ha : In (c.From.length : Int) a) : M.impl_Category_marks c a = some (mrkA (c.From.length : Int) a (a.length : Int)) := by
  apply Ret.eq
  have m40 := h.m40
  unfold M.impl_Category_marks M.impl_Category_arrows
  simp only [Option.bind_some]
  refine Ret.chk ⟨by omega, by unfold lim; omega⟩ ?_
  refine Ret.acc (a.length : Int) (fun i s => s = mrkA (c.From.length : Int) a i) (by omega) (by omega) ?_ ?_ ?_
  · rw [rep_tab]
    unfold mrkA
    apply tab_congr
    intro f f0 f1
    simp
  · rintro i s next i0 i1 rfl hn
    have hx := ha i i0 i1
    have hl : ((mrkA (c.From.length : Int) a i).length : Int) = (c.From.length : Int) := tab_len' _ _ (by omega)
    dsimp only
    rw [if_pos (decide_eq_true i1)]
    refine Ret.idx i0 i1 (Ret.idx hx.1 (by omega) (hn _ ?_))
    unfold mrkA
    rw [set_tab hx.1]
    apply tab_congr
    intro f f0 f1
    by_cases hf : f = el a i
    · rw [if_pos hf, decide_eq_true ((mem_take_succ i0 i1).2 (Or.inr hf))]
    · rw [if_neg hf, decide_eq_decide, mem_take_succ i0 i1]
      exact ⟨Or.inl, fun x => x.resolve_right hf⟩
  · rintro s next rfl
    dsimp only
    rw [if_neg (by simp)]
    exact Ret.some rfl

/-! ### the two halves -/
end Go.Gx

/- Plain laws: the part of a category that some arrows make up. -/
namespace Go.Gx
open Classical
set_option maxHeartbeats 1000000

noncomputable def objA (c : XCategory) (a : List Int) : List Int := fil c.Objects fun x => decide (el c.Identity x ∈ a)
noncomputable def subA (c : XCategory) (a : List Int) : XCategory :=
  ⟨((objA c a).length : Int), a.map fun f => indexL (objA c a) (el c.From f), a.map fun f => indexL (objA c a) (el c.To f), (objA c a).map fun x => indexL a (el c.Identity x),
    a.map fun f => a.map fun g => indexL a (cmp c f g)⟩
/-- Arrows that make up a part: none twice, with their identities and composites. -/
structure SubA (c : XCategory) (a : List Int) : Prop where
  s : Shp c
  na : a.Nodup
  ia : In (c.From.length : Int) a
  ids : ∀ f ∈ a, el c.Identity (el c.From f) ∈ a ∧ el c.Identity (el c.To f) ∈ a
  cl : ∀ f ∈ a, ∀ g ∈ a, el c.To f = el c.From g → cmp c f g ∈ a

section
variable {c : XCategory} {a : List Int}
theorem objA_mem {x : Int} : x ∈ objA c a ↔ 0 ≤ x ∧ x < c.Objects ∧ el c.Identity x ∈ a := by
  unfold objA; rw [fil_mem, decide_eq_true_iff]
theorem SubA.mem (h : SubA c a) {f : Int} (hf : f ∈ a) : 0 ≤ f ∧ f < (c.From.length : Int) ∧ el c.From f ∈ objA c a ∧ el c.To f ∈ objA c a := by
  obtain ⟨i, i0, i1, rfl⟩ := mem_el hf
  have r := h.ia i i0 i1
  have s := h.s.from_in _ r.1 r.2
  have t := h.s.to_in _ r.1 r.2
  have d := h.ids _ hf
  exact ⟨r.1, r.2, objA_mem.2 ⟨s.1, s.2, d.1⟩, objA_mem.2 ⟨t.1, t.2, d.2⟩⟩
theorem SubA.comp (h : SubA c a) {f g : Int} (hf : f ∈ a) (hg : g ∈ a) (e : el c.To f = el c.From g) : cmp c f g ∈ a := h.cl f hf g hg e
theorem SubA.inn (_ : SubA c a) {x : Int} (hx : x ∈ objA c a) : 0 ≤ x ∧ x < c.Objects := ⟨(objA_mem.1 hx).1, (objA_mem.1 hx).2.1⟩
theorem SubA.id (_ : SubA c a) {x : Int} (x0 : 0 ≤ x) (x1 : x < c.Objects) : el c.Identity x ∈ a ↔ x ∈ objA c a := by
  rw [objA_mem]; exact ⟨fun z => ⟨x0, x1, z⟩, fun z => z.2.2⟩
theorem SubA.objs (_ : SubA c a) : (fil c.Objects fun x => decide (el c.Identity x ∈ a)) = objA c a := rfl
theorem SubA.len (h : SubA c a) : ((objA c a).length : Int) ≤ c.Objects := by
  have := fil_length_le c.Objects fun x => decide (el c.Identity x ∈ a)
  have n0 := h.s.n0
  unfold objA; omega
theorem SubA.lenA (h : SubA c a) : (a.length : Int) ≤ (c.From.length : Int) := by
  have e := nodup_len (m := tab (c.From.length : Int) fun x => x) h.na fun x hx => by
    have m := h.mem hx
    exact el_tab (f := fun x => x) m.1 m.2.1 ▸ el_mem (l := tab (c.From.length : Int) fun x => x) m.1 (by rw [tab_length]; omega)
  rw [tab_length] at e
  omega
end

theorem l02Part_eqA {c : XCategory} {a : List Int} (h : SubA c a) : M.spec_l02Part c a = some (subA c a) := by
  apply Ret.eq
  have n0 := h.s.n0
  have n8 := h.s.n8
  have m40 := h.s.m40
  have lid := h.s.lid
  have lto := h.s.lto
  have lco := h.s.lco
  have lo := h.len
  have la := h.lenA
  have so : Small (objA c a) := by unfold Small; omega
  have sa : Small a := by unfold Small; omega
  unfold M.spec_l02Part
  refine fil_loop (n := c.Objects) (p := fun x => decide (el c.Identity x ∈ a)) n0 (by omega) ?_ ?_
  · intro x next x0 x1 hs hy hn
    dsimp only
    rw [if_pos (decide_eq_true x1)]
    refine Ret.idx x0 (by omega) (Ret.call (l01Has_eq sa _) (Ret.ite (fun h1 => Ret.chk ?_ (hy h1)) (fun h1 => hn (Bool.eq_false_iff.2 h1))))
    unfold lim; simp only [List.length_cons, List.length_nil]; omega
  intro next
  dsimp only
  rw [if_neg (by simp), h.objs]
  refine map_loop (l := (objA c a)) (F := fun x => indexL a (el c.Identity x)) so ?_ ?_
  · intro i s next i0 i1 hs hn
    have hx := h.inn (el_mem i0 i1)
    dsimp only
    rw [if_pos (decide_eq_true i1)]
    refine Ret.idx i0 i1 (Ret.idx hx.1 (by omega) (Ret.call (l01Index_eq sa _) (Ret.chk ?_ hn)))
    unfold lim; simp only [List.length_cons, List.length_nil]; omega
  intro next
  dsimp only
  rw [if_neg (by simp)]
  refine Ret.loop (a.length : Int) (fun i s => s = ((a.take i.toNat).map (fun f => indexL (objA c a) (el c.From f)), (a.take i.toNat).map (fun f => indexL (objA c a) (el c.To f)),
      (a.take i.toNat).map (fun f => a.map fun g => indexL a (cmp c f g)), i)) (by omega) (by omega) rfl ?_ ?_
  · rintro i s next i0 i1 rfl hn
    have mf := h.mem (el_mem i0 i1)
    have rf := h.s.row _ mf.1 mf.2.1
    dsimp only
    rw [if_pos (decide_eq_true i1)]
    have l1 : ∀ {α : Type} (F : Int → α), (((a.take i.toNat).map F).length : Int) ≤ 40 := fun F => by rw [List.length_map, List.length_take]; omega
    have l2 := l1 fun f => indexL (objA c a) (el c.From f)
    have l3 := l1 fun f => indexL (objA c a) (el c.To f)
    have l4 := l1 fun f => a.map fun g => indexL a (cmp c f g)
    refine Ret.idx i0 i1 (Ret.idx mf.1 mf.2.1 (Ret.call (l01Index_eq so _) (Ret.chk (by unfold lim; simp only [List.length_cons, List.length_nil]; omega) ?_)))
    refine Ret.idx mf.1 (by omega) (Ret.call (l01Index_eq so _) (Ret.chk (by unfold lim; simp only [List.length_cons, List.length_nil]; omega) ?_))
    refine map_loop (l := a) (F := fun g => indexL a (cmp c (el a i) g)) sa ?_ ?_
    · intro j s next j0 j1 hs hn2
      have mg := h.mem (el_mem j0 j1)
      dsimp only
      rw [if_pos (decide_eq_true j1)]
      refine Ret.idx mf.1 (by omega) (Ret.idx j0 j1 (Ret.idx mg.1 (by omega) (Ret.call (l01Index_eq sa _) (Ret.chk ?_ hn2))))
      unfold lim; simp only [List.length_cons, List.length_nil]; omega
    · intro next
      dsimp only
      rw [if_neg (by simp)]
      refine Ret.chk (by unfold lim; omega) (hn _ ?_)
      rw [take_succ_el i0 i1, List.map_append, List.map_append, List.map_append, wrap_in (by omega) (by omega)]; rfl
  · rintro s next rfl
    dsimp only
    rw [if_neg (by simp), show (a.length : Int).toNat = a.length by omega, List.take_length]
    exact Ret.some rfl

theorem sub_eqA {c : XCategory} {a : List Int} (h : SubA c a) : M.impl_Category_sub c a = some (subA c a, objA c a) := by
  apply Ret.eq
  have n0 := h.s.n0
  have n8 := h.s.n8
  have m40 := h.s.m40
  have lid := h.s.lid
  have lto := h.s.lto
  have lco := h.s.lco
  have lo := h.len
  have la := h.lenA
  have so : Small (objA c a) := by unfold Small; omega
  have sa : Small a := by unfold Small; omega
  have na := h.na
  have ina : In (c.From.length : Int) a := fun i i0 i1 => by
    have := h.mem (el_mem i0 i1)
    exact ⟨this.1, this.2.1⟩
  unfold M.impl_Category_sub M.impl_Category_arrows
  simp only [Option.bind_some]
  refine Ret.chk ⟨by omega, by unfold lim; omega⟩ ?_
  refine Ret.acc (a.length : Int) (fun i s => s = numA (c.From.length : Int) a i) (by omega) (by omega) ?_ ?_ ?_
  · rw [rep_tab]
    unfold numA
    apply tab_congr
    intro f f0 f1
    simp
  · rintro i s next i0 i1 rfl hn
    have hx := ina i i0 i1
    have hl := numA_len (m := (c.From.length : Int)) (by omega) a i
    dsimp only
    rw [if_pos (decide_eq_true i1)]
    refine Ret.idx i0 i1 (Ret.idx hx.1 (by omega) (hn _ ?_))
    unfold numA
    rw [set_tab hx.1]
    apply tab_congr
    intro f f0 f1
    by_cases hf : f = el a i
    · rw [if_pos hf, if_pos ((mem_take_succ i0 i1).2 (Or.inr hf)), hf, indexL_el sa na i0 i1]
    · rw [if_neg hf]
      by_cases hm : f ∈ a.take i.toNat
      · rw [if_pos hm, if_pos ((mem_take_succ i0 i1).2 (Or.inl hm))]
      · rw [if_neg hm, if_neg (fun x => hm (((mem_take_succ i0 i1).1 x).resolve_right hf))]
  rintro s next rfl
  dsimp only
  rw [if_neg (by simp)]
  have hnl := numA_len (m := (c.From.length : Int)) (by omega) a (a.length : Int)
  have hml : ((mrkA (c.From.length : Int) a (a.length : Int)).length : Int) = (c.From.length : Int) := tab_len' _ _ (by omega)
  have hmk : ∀ f, 0 ≤ f → f < (c.From.length : Int) → el (mrkA (c.From.length : Int) a (a.length : Int)) f = decide (f ∈ a) := fun f f0 f1 => by
    unfold mrkA
    rw [el_tab f0 f1, show ((a.length : Int)).toNat = a.length by omega, List.take_length]
  refine Ret.call (marks_eq h.s sa ina) (Ret.chk ⟨by omega, by unfold lim; omega⟩ ?_)
  refine Ret.loop (c.Identity.length : Int) (fun x s => s = (fil x (fun x => decide (el c.Identity x ∈ a)), tab c.Objects (fun y => if y < x ∧ el c.Identity y ∈ a then indexL (objA c a) y else 0),
      (fil x (fun x => decide (el c.Identity x ∈ a))).map (fun x => indexL a (el c.Identity x)), x)) (by omega) (by omega) ?_ ?_ ?_
  · refine Prod.ext rfl (Prod.ext ?_ rfl)
    dsimp only
    rw [rep_tab]
    apply tab_congr
    intro y y0 y1
    rw [if_neg (fun x => by omega)]
  · rintro x s next x0 x1 rfl hn
    have i := h.s.id_in x x0 (by omega)
    have hle := fil_length_le x fun x => decide (el c.Identity x ∈ a)
    have hle2 : (((fil x fun x => decide (el c.Identity x ∈ a)).map fun x => indexL a (el c.Identity x)).length : Int) ≤ x := by rw [List.length_map]; omega
    have lp : ((tab c.Objects fun y => if y < x ∧ el c.Identity y ∈ a then indexL (objA c a) y else 0).length : Int) = c.Objects := tab_len' _ _ n0
    dsimp only
    rw [if_pos (decide_eq_true x1)]
    refine Ret.idx x0 (by omega) (Ret.idx i.1 (by omega) ?_)
    rw [hmk _ i.1 i.2]
    refine Ret.ite (fun hb => ?_) (fun hb => hn _ ?_)
    · have hm := of_decide_eq_true hb
      refine Ret.idx x0 (by omega) (Ret.chk (by unfold lim; simp only [List.length_cons, List.length_nil]; omega) (Ret.idx i.1 (by omega) (Ret.chk (by unfold lim; simp only [List.length_cons, List.length_nil]; omega) (hn _ ?_))))
      rw [numA_at i.1 i.2 hm, fil_succ _ x0, hb, wrap_in (by omega) (by omega)]
      have hpl := fil_place (n := c.Objects) (fun x => decide (el c.Identity x ∈ a)) x0 (by omega) hb (by omega)
      rw [h.objs] at hpl
      refine Prod.ext rfl (Prod.ext ?_ (Prod.ext ?_ rfl))
      · dsimp only
        rw [set_tab x0, ← hpl]
        apply tab_congr
        intro y y0 y1
        by_cases hy : y = x
        · subst hy; rw [if_pos rfl, if_pos ⟨by omega, hm⟩]
        · rw [if_neg hy]
          by_cases h2 : y < x ∧ el c.Identity y ∈ a
          · rw [if_pos h2, if_pos ⟨by omega, h2.2⟩]
          · rw [if_neg h2, if_neg (fun z => h2 ⟨by omega, z.2⟩)]
      · dsimp only
        simp
    · have hm : el c.Identity x ∉ a := fun z => hb (decide_eq_true z)
      rw [fil_succ _ x0, if_neg hb, List.append_nil, wrap_in (by omega) (by omega)]
      refine Prod.ext rfl (Prod.ext ?_ rfl)
      dsimp only
      apply tab_congr
      intro y y0 y1
      by_cases h2 : y < x ∧ el c.Identity y ∈ a
      · rw [if_pos h2, if_pos ⟨by omega, h2.2⟩]
      · rw [if_neg h2, if_neg (fun z => h2 ⟨by
          rcases Int.lt_trichotomy y x with q | q | q
          · exact q
          · subst q; exact absurd z.2 hm
          · omega, z.2⟩)]
  rintro s next rfl
  dsimp only
  rw [if_neg (by simp), lid, h.objs]
  have lp : ((tab c.Objects fun y => if y < c.Objects ∧ el c.Identity y ∈ a then indexL (objA c a) y else 0).length : Int) = c.Objects := tab_len' _ _ n0
  have ep : ∀ y, y ∈ (objA c a) → el (tab c.Objects fun y => if y < c.Objects ∧ el c.Identity y ∈ a then indexL (objA c a) y else 0) y = indexL (objA c a) y := fun y hy => by
    have b := h.inn hy
    rw [el_tab b.1 b.2, if_pos ⟨b.2, (h.id b.1 b.2).2 hy⟩]
  refine Ret.loop (a.length : Int) (fun i s => s = ((a.take i.toNat).map (fun f => indexL (objA c a) (el c.From f)), (a.take i.toNat).map (fun f => indexL (objA c a) (el c.To f)),
      (a.take i.toNat).map (fun f => a.map fun g => indexL a (cmp c f g)), i)) (by omega) (by omega) rfl ?_ ?_
  · rintro i s next i0 i1 rfl hn
    have hf : el a i ∈ a := el_mem i0 i1
    have mf := h.mem hf
    have rf := h.s.row _ mf.1 mf.2.1
    have bf := h.inn mf.2.2.1
    have bt := h.inn mf.2.2.2
    dsimp only
    rw [if_pos (decide_eq_true i1)]
    have l1 : ∀ {α : Type} (F : Int → α), (((a.take i.toNat).map F).length : Int) ≤ 40 := fun F => by rw [List.length_map, List.length_take]; omega
    have l2 := l1 fun f => indexL (objA c a) (el c.From f)
    have l3 := l1 fun f => indexL (objA c a) (el c.To f)
    have l4 := l1 fun f => a.map fun g => indexL a (cmp c f g)
    refine Ret.idx i0 i1 (Ret.idx mf.1 mf.2.1 (Ret.idx bf.1 (by omega) ?_))
    rw [ep _ mf.2.2.1]
    refine Ret.chk (by unfold lim; simp only [List.length_cons, List.length_nil]; omega) (Ret.idx mf.1 (by omega) (Ret.idx bt.1 (by omega) ?_))
    rw [ep _ mf.2.2.2]
    refine Ret.chk (by unfold lim; simp only [List.length_cons, List.length_nil]; omega) ?_
    refine map_loop (l := a) (F := fun g => indexL a (cmp c (el a i) g)) sa ?_ ?_
    · intro j s next j0 j1 hs hn2
      have hg : el a j ∈ a := el_mem j0 j1
      have mg := h.mem hg
      dsimp only
      rw [if_pos (decide_eq_true j1)]
      refine Ret.idx j0 j1 (Ret.call (then_eq mf.1 (by omega) mg.1 (by omega)) (Ret.ite (fun hb => ?_) (fun hb => ?_)))
      · have hb := of_decide_eq_true hb
        have he : el c.To (el a i) = el c.From (el a j) := by
          apply Decidable.byContradiction
          intro hne
          have := h.s.no _ _ mf.1 mf.2.1 mg.1 mg.2.1 hne
          omega
        have y := h.s.yes _ _ mf.1 mf.2.1 mg.1 mg.2.1 he
        refine Ret.idx y.1 (by omega) ?_
        rw [numA_at y.1 y.2 (h.comp hf hg he)]
        exact Ret.chk (by unfold lim; simp only [List.length_cons, List.length_nil]; omega) hn2
      · have hb : ¬ cmp c (el a i) (el a j) ≥ 0 := fun x => hb (decide_eq_true x)
        have he : ¬ el c.To (el a i) = el c.From (el a j) := fun e => hb (h.s.yes _ _ mf.1 mf.2.1 mg.1 mg.2.1 e).1
        have e1 := h.s.no _ _ mf.1 mf.2.1 mg.1 mg.2.1 he
        have e2 : indexL a (cmp c (el a i) (el a j)) = cmp c (el a i) (el a j) := by
          rw [e1]
          exact indexL_no sa fun x => by have := (h.mem x).1; omega
        rw [e2] at hn2
        exact Ret.chk (by unfold lim; simp only [List.length_cons, List.length_nil]; omega) hn2
    · intro next
      dsimp only
      rw [if_neg (by simp)]
      refine Ret.chk (by unfold lim; omega) (hn _ ?_)
      rw [take_succ_el i0 i1, List.map_append, List.map_append, List.map_append, wrap_in (by omega) (by omega)]; rfl
  · rintro s next rfl
    dsimp only
    rw [if_neg (by simp), show (a.length : Int).toNat = a.length by omega, List.take_length]
    exact Ret.some rfl

end Go.Gx

/- The law of InclusionFunctor. -/
namespace Go.Gx
open Classical
set_option maxHeartbeats 1000000

/-! ### rising lists -/
def Rise (a : List Int) : Prop := ∀ i, 1 ≤ i → i < (a.length : Int) → el a (i - 1) < el a i
theorem Rise.lt {a : List Int} (h : Rise a) {i : Int} (i0 : 0 ≤ i) : ∀ k : Nat, i + (k : Int) + 1 < (a.length : Int) → el a i < el a (i + (k : Int) + 1)
  | 0, h1 => by
    have := h (i + 1) (by omega) (by simpa using h1)
    rw [show i + 1 - 1 = i by omega] at this
    simpa using this
  | k + 1, h1 => by
    have a1 := Rise.lt h i0 k (by omega)
    have a2 := h (i + (k : Int) + 1 + 1) (by omega) (by omega)
    rw [show i + (k : Int) + 1 + 1 - 1 = i + (k : Int) + 1 by omega] at a2
    rw [show i + ((k + 1 : Nat) : Int) + 1 = i + (k : Int) + 1 + 1 by omega]
    omega
theorem Rise.pw {a : List Int} (h : Rise a) : a.Pairwise (· < ·) := by
  rw [List.pairwise_iff_getElem]
  intro i j hi hj hij
  have := h.lt (i := (i : Int)) (by omega) (j - i - 1) (by omega)
  rw [show (i : Int) + ((j - i - 1 : Nat) : Int) + 1 = (j : Int) by omega, el_get hi, el_get hj] at this
  exact this
theorem rise_of {a : List Int} (h : a.Pairwise (· < ·)) : Rise a := by
  intro i i0 i1
  rw [List.pairwise_iff_getElem] at h
  have := h (i - 1).toNat i.toNat (by omega) (by omega) (by omega)
  rw [← el_get, ← el_get, show (((i - 1).toNat : Nat) : Int) = i - 1 by omega, show ((i.toNat : Nat) : Int) = i by omega] at this
  exact this
theorem pw_ext : ∀ {l m : List Int}, l.Pairwise (· < ·) → m.Pairwise (· < ·) → (∀ x, x ∈ l ↔ x ∈ m) → l = m
  | [], [], _, _, _ => rfl
  | [], y :: m, _, _, h => absurd ((h y).2 (by simp)) (by simp)
  | x :: l, [], _, _, h => absurd ((h x).1 (by simp)) (by simp)
  | x :: l, y :: m, hl, hm, h => by
    rw [List.pairwise_cons] at hl hm
    have e : x = y := by
      rcases Int.lt_trichotomy x y with q | q | q
      · rcases List.mem_cons.1 ((h x).1 (by simp)) with z | z
        · exact z
        · have := hm.1 x z; omega
      · exact q
      · rcases List.mem_cons.1 ((h y).2 (by simp)) with z | z
        · exact z.symm
        · have := hl.1 y z; omega
    subst e
    rw [pw_ext hl.2 hm.2 fun z => ?_]
    have hz := h z
    constructor
    · intro w
      have hlt := hl.1 z w
      rcases List.mem_cons.1 (hz.1 (List.mem_cons_of_mem _ w)) with q | q
      · omega
      · exact q
    · intro w
      have hlt := hm.1 z w
      rcases List.mem_cons.1 (hz.2 (List.mem_cons_of_mem _ w)) with q | q
      · omega
      · exact q
theorem fil_pw (n : Int) (p : Int → Bool) : (fil n p).Pairwise (· < ·) := by
  unfold fil
  refine List.Pairwise.filter _ ?_
  rw [List.pairwise_map]
  exact (List.pairwise_lt_range).imp fun h => by omega
theorem Rise.nodup {a : List Int} (h : Rise a) : a.Nodup := h.pw.imp fun h e => by omega
theorem Rise.fil {a : List Int} (h : Rise a) {m : Int} (ha : In m a) : a = fil m fun f => decide (f ∈ a) := by
  refine pw_ext h.pw (fil_pw _ _) fun x => ?_
  rw [fil_mem, decide_eq_true_iff]
  constructor
  · intro hx
    obtain ⟨i, i0, i1, rfl⟩ := mem_el hx
    have := ha i i0 i1
    exact ⟨this.1, this.2, hx⟩
  · intro hx; exact hx.2.2

theorem rising_eq {a : List Int} (sa : Small a) : M.impl_rising a = some (decide (Rise a)) := by
  apply Ret.eq
  unfold Small at sa
  unfold M.impl_rising
  by_cases h0 : a.length = 0
  · have e : a = [] := List.eq_nil_of_length_eq_zero h0
    subst e
    refine Ret.loop 0 (fun _ s => s = 1) (by omega) (by omega) rfl (fun _ _ _ _ h => by omega) ?_
    rintro s next rfl
    rw [if_neg (by simp)]
    exact Ret.some (decide_eq_true (fun i i0 i1 => by simp at i1; omega)).symm
  · refine Ret.loop ((a.length : Int) - 1) (fun i s => s = i + 1 ∧ ∀ k, 1 ≤ k → k < i + 1 → el a (k - 1) < el a k) (by omega) (by omega) ⟨rfl, fun k k0 k1 => by omega⟩ ?_ ?_
    · rintro i s next i0 i1 ⟨rfl, hp⟩ hn
      have w : IntKind.i64.wrap (i + 1 - 1) = i := by rw [wrap_in (by omega) (by omega)]; omega
      rw [if_pos (decide_eq_true (by omega)), w]
      refine Ret.idx i0 (by omega) (Ret.idx (by omega) (by omega) (Ret.ite (fun e => Ret.some ?_) (fun e => hn _ ⟨wrap_in (by omega) (by omega), fun k k0 k1 => ?_⟩)))
      · have e := of_decide_eq_true e
        rw [decide_eq_false]
        intro z
        have := z (i + 1) (by omega) (by omega)
        rw [show i + 1 - 1 = i by omega] at this
        omega
      · have e : ¬ el a i ≥ el a (i + 1) := fun z => e (decide_eq_true z)
        by_cases hk : k = i + 1
        · subst hk; rw [show i + 1 - 1 = i by omega]; omega
        · exact hp k k0 (by omega)
    · rintro s next ⟨rfl, hp⟩
      rw [if_neg (by simp)]
      exact Ret.some (decide_eq_true (fun k k0 k1 => hp k k0 (by omega))).symm

/-! ### parts that are closed -/
def ClosedA (c : XCategory) (a : List Int) : Prop := (∀ f ∈ a, el c.Identity (el c.From f) ∈ a ∧ el c.Identity (el c.To f) ∈ a) ∧ ∀ f ∈ a, ∀ g ∈ a, el c.To f = el c.From g → cmp c f g ∈ a
def SubcL (c : XCategory) (a : List Int) : Prop := Rise a ∧ ClosedA c a

theorem SubcL.sub {c : XCategory} {a : List Int} (h : SubcL c a) (s : Shp c) (ia : In (c.From.length : Int) a) : SubA c a := ⟨s, h.1.nodup, ia, h.2.1, h.2.2⟩

section
variable {c : XCategory} {a : List Int}
/-- What is known of the flags. -/
structure Fl (c : XCategory) (a : List Int) (b : List Bool) : Prop where
  len : (b.length : Int) = (c.From.length : Int)
  has : ∀ f ∈ a, el b f = true ∧ el b (el c.Identity (el c.From f)) = true ∧ el b (el c.Identity (el c.To f)) = true
  snd : ClosedA c a → ∀ f, 0 ≤ f → f < (c.From.length : Int) → el b f = true → f ∈ a
def ClAt (c : XCategory) (b : List Bool) (f g : Int) : Prop := el b f = true → el b g = true → el c.To f = el c.From g → el b (cmp c f g) = true

theorem set_up {b : List Bool} {h : Int} (h0 : 0 ≤ h) (h1 : h < (b.length : Int)) {f : Int} (f0 : 0 ≤ f) (e : el b f = true) : el (b.set h.toNat true) f = true := by
  rw [el_set h0 h1 f0]; split
  · rfl
  · exact e
theorem count_up {b : List Bool} {h : Int} (h0 : 0 ≤ h) (h1 : h < (b.length : Int)) (e : el b h = false) : ((b.set h.toNat true).count true : Int) = (b.count true : Int) + 1 := by
  have eb : b[h.toNat]'(by omega) = false := by
    unfold el at e
    rw [List.getD_eq_getElem?_getD, List.getElem?_eq_getElem (by omega)] at e
    simpa using e
  rw [List.count_set (by omega), eb]
  simp

theorem l02Close_r (hc : Shp c) (sa : Small a) (ha : In (c.From.length : Int) a) : Ret (M.spec_l02Close c a) fun r => Small r ∧ (r = a ↔ SubcL c a) := by
  have m40 := hc.m40
  have lt := hc.lto
  have li := hc.lid
  have lc := hc.lco
  unfold Small at sa
  unfold M.spec_l02Close
  refine Ret.chk ⟨by omega, by unfold lim; omega⟩ ?_
  refine Ret.acc (a.length : Int) (fun i b => (b.length : Int) = (c.From.length : Int) ∧ (∀ k, 0 ≤ k → k < i → el b (el a k) = true ∧ el b (el c.Identity (el c.From (el a k))) = true ∧ el b (el c.Identity (el c.To (el a k))) = true) ∧
      (ClosedA c a → ∀ f, 0 ≤ f → f < (c.From.length : Int) → el b f = true → f ∈ a)) (by omega) (by omega) ⟨by rw [List.length_replicate]; omega, fun k k0 k1 => by omega, ?_⟩ ?_ ?_
  · intro _ f f0 f1 e
    rw [rep_tab, el_tab f0 f1] at e
    cases e
  · rintro i b next i0 i1 ⟨hl, hh, hs⟩ hn
    have r := ha i i0 i1
    have s := hc.from_in _ r.1 r.2
    have t := hc.to_in _ r.1 r.2
    have is := hc.id_in _ s.1 s.2
    have it := hc.id_in _ t.1 t.2
    have l1 : ((b.set (el a i).toNat true).length : Int) = (b.length : Int) := by rw [List.length_set]
    have l2 : (((b.set (el a i).toNat true).set (el c.Identity (el c.From (el a i))).toNat true).length : Int) = (b.length : Int) := by rw [List.length_set, List.length_set]
    dsimp only
    rw [if_pos (decide_eq_true i1)]
    refine Ret.idx i0 i1 (Ret.idx r.1 (by omega) (Ret.idx r.1 r.2 (Ret.idx s.1 (by omega) (Ret.idx is.1 (by omega) (Ret.idx r.1 (by omega) (Ret.idx t.1 (by omega) (Ret.idx it.1 (by omega) (hn _ ⟨?_, ?_, ?_⟩))))))))
    · rw [List.length_set, List.length_set, List.length_set]; exact hl
    · have up : ∀ f, 0 ≤ f → el b f = true → el (((b.set (el a i).toNat true).set (el c.Identity (el c.From (el a i))).toNat true).set (el c.Identity (el c.To (el a i))).toNat true) f = true :=
        fun f f0 e => set_up it.1 (by omega) f0 (set_up is.1 (by omega) f0 (set_up r.1 (by omega) f0 e))
      intro k k0 k1
      by_cases e : k = i
      · subst e
        refine ⟨set_up it.1 (by omega) r.1 (set_up is.1 (by omega) r.1 ?_), set_up it.1 (by omega) is.1 ?_, ?_⟩
        · rw [el_set r.1 (by omega) r.1, if_pos rfl]
        · rw [el_set is.1 (by omega) is.1, if_pos rfl]
        · rw [el_set it.1 (by omega) it.1, if_pos rfl]
      · have h := hh k k0 (by omega)
        have r' := ha k k0 (by omega)
        have s' := hc.from_in _ r'.1 r'.2
        have t' := hc.to_in _ r'.1 r'.2
        exact ⟨up _ r'.1 h.1, up _ (hc.id_in _ s'.1 s'.2).1 h.2.1, up _ (hc.id_in _ t'.1 t'.2).1 h.2.2⟩
    · intro hcl f f0 f1 e
      have hm : el a i ∈ a := el_mem i0 i1
      rw [el_set it.1 (by omega) f0] at e
      by_cases q1 : f = el c.Identity (el c.To (el a i))
      · rw [q1]; exact (hcl.1 _ hm).2
      rw [if_neg q1, el_set is.1 (by omega) f0] at e
      by_cases q2 : f = el c.Identity (el c.From (el a i))
      · rw [q2]; exact (hcl.1 _ hm).1
      rw [if_neg q2, el_set r.1 (by omega) f0] at e
      by_cases q3 : f = el a i
      · rw [q3]; exact hm
      rw [if_neg q3] at e
      exact hs hcl f f0 f1 e
  rintro b next ⟨hl, hh, hs⟩
  dsimp only
  rw [if_neg (by simp)]
  have fl0 : Fl c a b := ⟨hl, fun f hf => by
    obtain ⟨k, k0, k1, rfl⟩ := mem_el hf
    exact hh k k0 k1, hs⟩
  -- the end
  have done : ∀ (b : List Bool), Fl c a b → (∀ f, 0 ≤ f → f < (c.From.length : Int) → ∀ g, 0 ≤ g → g < (c.From.length : Int) → ClAt c b f g) →
      Ret (iter (fun (s44 : (List Int) × Int) next45 =>
              if decide (s44.2 < (b.length : Int)) then
                (idx b s44.2).bind fun y49 =>
                if y49 then
                  chk (s44.1.length + (([s44.2] : List Int).length) ≤ lim) (
                    next45 (s44.1 ++ ([s44.2] : List Int), IntKind.i64.wrap (s44.2 + 1)))
                else
                  next45 (s44.1, IntKind.i64.wrap (s44.2 + 1))
              else
                some s44.1) fuel (([] : List Int), 0)) fun r => Small r ∧ (r = a ↔ SubcL c a) := by
    intro b fl cl
    have fll := fl.len
    refine fil_loop (n := (b.length : Int)) (p := fun f => el b f) (by omega) (by omega) ?_ ?_
    · intro i next i0 i1 hs hy hn
      dsimp only
      rw [if_pos (decide_eq_true i1)]
      refine Ret.idx i0 i1 (Ret.ite (fun h => Ret.chk ?_ (hy h)) (fun h => hn (Bool.eq_false_iff.2 h)))
      unfold lim; simp only [List.length_cons, List.length_nil]; omega
    · intro next
      dsimp only
      rw [if_neg (by simp), fll]
      have hle := fil_length_le (c.From.length : Int) fun f => el b f
      refine Ret.some ⟨by unfold Small; omega, ?_⟩
      constructor
      · intro e
        have mem : ∀ {f : Int}, f ∈ a ↔ 0 ≤ f ∧ f < (c.From.length : Int) ∧ el b f = true := fun {f} => by rw [← e]; exact fil_mem
        refine ⟨rise_of (by rw [← e]; exact fil_pw _ _), fun f hf => ?_, fun f hf g hg q => ?_⟩
        · have hf' := mem.1 hf
          have s := hc.from_in _ hf'.1 hf'.2.1
          have t := hc.to_in _ hf'.1 hf'.2.1
          have is := hc.id_in _ s.1 s.2
          have it := hc.id_in _ t.1 t.2
          have h := fl.has f hf
          exact ⟨mem.2 ⟨is.1, is.2, h.2.1⟩, mem.2 ⟨it.1, it.2, h.2.2⟩⟩
        · have hf' := mem.1 hf
          have hg' := mem.1 hg
          have y := hc.yes _ _ hf'.1 hf'.2.1 hg'.1 hg'.2.1 q
          exact mem.2 ⟨y.1, y.2, cl f hf'.1 hf'.2.1 g hg'.1 hg'.2.1 hf'.2.2 hg'.2.2 q⟩
      · intro h
        rw [h.1.fil ha]
        apply fil_congr
        intro f f0 f1
        rw [Bool.eq_iff_iff, decide_eq_true_iff]
        exact ⟨fl.snd h.2 f f0 f1, fun z => (fl.has f z).1⟩
  refine Ret.loop ((c.From.length : Int) + 1) (fun i s => Fl c a s.1 ∧ (s.2 = true → i ≤ (s.1.count true : Int)) ∧ (s.2 = false → ∀ f, 0 ≤ f → f < (c.From.length : Int) → ∀ g, 0 ≤ g → g < (c.From.length : Int) → ClAt c s.1 f g)) (by omega) (by omega) ⟨fl0, fun _ => by dsimp only; omega, fun e => by cases e⟩ ?_ ?_
  · rintro i ⟨b0, more⟩ next i0 i1 ⟨f0, hm, hcl⟩ hn
    dsimp only at f0 hm hcl ⊢
    cases more with
    | false =>
      rw [if_neg (by simp)]
      exact done b0 f0 (hcl rfl)
    | true =>
      rw [if_pos rfl]
      have hcnt := hm rfl
      have lb0 := f0.len
      refine Ret.loop (c.From.length : Int) (fun f s => (s.2.2 = f ∧ Fl c a s.1) ∧ (s.2.1 = true → (b0.count true : Int) + 1 ≤ (s.1.count true : Int)) ∧ (s.2.1 = false → s.1 = b0 ∧ ∀ f', 0 ≤ f' → f' < f → ∀ g, 0 ≤ g → g < (c.From.length : Int) → ClAt c b0 f' g)) (by omega) (by omega)
        ⟨⟨rfl, f0⟩, fun e => (by cases e), fun _ => ⟨rfl, fun f' h0 h1 => by omega⟩⟩ ?_ ?_
      · rintro f ⟨b1, m1, q⟩ nx2 ff0 ff1 ⟨⟨hq, fb1⟩, hm1, hm2⟩ hn2
        dsimp only at hq fb1 hm1 hm2 ⊢
        subst hq
        have lb1 := fb1.len
        rw [if_pos (decide_eq_true (by omega))]
        refine Ret.loop (c.From.length : Int) (fun g s => (s.2.2 = g ∧ Fl c a s.1) ∧ (s.2.1 = true → (b0.count true : Int) + 1 ≤ (s.1.count true : Int)) ∧ (s.2.1 = false → s.1 = b0 ∧ (∀ f', 0 ≤ f' → f' < q → ∀ g, 0 ≤ g → g < (c.From.length : Int) → ClAt c b0 f' g) ∧ ∀ g', 0 ≤ g' → g' < g → ClAt c b0 q g')) (by omega) (by omega)
          ⟨⟨rfl, fb1⟩, hm1, fun e => ⟨(hm2 e).1, (hm2 e).2, fun g' h0 h1 => by omega⟩⟩ ?_ ?_
        · rintro g ⟨b2, m2, p⟩ nx3 g0 g1 ⟨⟨hp, fb2⟩, hk1, hk2⟩ hn3
          dsimp only at hp fb2 hk1 hk2 ⊢
          subst hp
          have lb2 := fb2.len
          have w : IntKind.i64.wrap (p + 1) = p + 1 := wrap_in (by omega) (by omega)
          have rw_ := hc.row q ff0 ff1
          -- nothing new
          have same : (m2 = false → ClAt c b2 q p) → Ret (nx3 (b2, m2, IntKind.i64.wrap (p + 1))) _ := fun hat => hn3 _ ⟨⟨w, fb2⟩, hk1, fun e => ⟨(hk2 e).1, (hk2 e).2.1, fun g' h0 h1 => by
            by_cases z : g' = p
            · subst z
              have := hat e
              rwa [(hk2 e).1] at this
            · exact (hk2 e).2.2 g' h0 (by omega)⟩⟩
          rw [if_pos (decide_eq_true (by omega))]
          unfold joinM
          dsimp only
          refine Ret.idx ff0 (by omega) (Ret.ite (fun e1 => ?_) (fun e1 => same fun _ x => absurd x e1))
          refine Ret.idx g0 (by omega) (Ret.ite (fun e2 => ?_) (fun e2 => same fun _ _ x => absurd x e2))
          refine Ret.idx ff0 (by omega) (Ret.idx g0 (by omega) (Ret.ite (fun e3 => ?_) (fun e3 => same fun _ _ _ x => absurd (beq_iff_eq.2 x) e3)))
          have e3 := beq_iff_eq.1 e3
          have y := hc.yes _ _ ff0 ff1 g0 g1 e3
          refine Ret.idx ff0 (by omega) (Ret.idx g0 (by omega) (Ret.idx y.1 (show cmp c q p < _ by omega) (Ret.ite (fun e4 => same fun _ _ _ _ => e4) (fun e4 => ?_))))
          have e4 : el b2 (cmp c q p) = false := Bool.eq_false_iff.2 e4
          refine hn3 _ ⟨⟨w, ⟨by rw [List.length_set]; exact lb2, fun f hf => ?_, fun hcc f h0 h1 e => ?_⟩⟩, fun _ => ?_, fun e => (by cases e)⟩
          · obtain ⟨k, k0, k1, rfl⟩ := mem_el hf
            have r := ha k k0 k1
            have s := hc.from_in _ r.1 r.2
            have t := hc.to_in _ r.1 r.2
            have h := fb2.has _ hf
            exact ⟨set_up y.1 (by omega) r.1 h.1, set_up y.1 (by omega) (hc.id_in _ s.1 s.2).1 h.2.1, set_up y.1 (by omega) (hc.id_in _ t.1 t.2).1 h.2.2⟩
          · rw [el_set y.1 (by omega) h0] at e
            by_cases z : f = cmp c q p
            · rw [z]
              exact hcc.2 _ (fb2.snd hcc _ ff0 ff1 e1) _ (fb2.snd hcc _ g0 g1 e2) e3
            · rw [if_neg z] at e
              exact fb2.snd hcc f h0 h1 e
          · dsimp only
            rw [count_up y.1 (by omega) e4]
            cases m2 with
            | true => have := hk1 rfl; omega
            | false => rw [(hk2 rfl).1]; omega
        · rintro ⟨b2, m2, p⟩ nx3 ⟨⟨hp, fb2⟩, hk1, hk2⟩
          dsimp only at hp fb2 hk1 hk2 ⊢
          have lb2 := fb2.len
          rw [if_neg (by simp; omega)]
          refine hn2 _ ⟨⟨wrap_in (by omega) (by omega), fb2⟩, hk1, fun e => ⟨(hk2 e).1, fun f' h0 h1 g g0 g1 => ?_⟩⟩
          by_cases z : f' = q
          · subst z; exact (hk2 e).2.2 g g0 g1
          · exact (hk2 e).2.1 f' h0 (by omega) g g0 g1
      · rintro ⟨b1, m1, q⟩ nx2 ⟨⟨hq, fb1⟩, hm1, hm2⟩
        dsimp only at hq fb1 hm1 hm2 ⊢
        have lb1 := fb1.len
        rw [if_neg (by simp; omega)]
        refine hn _ ⟨fb1, fun e => ?_, fun e => ?_⟩
        · have := hm1 e
          dsimp only; omega
        · dsimp only
          rw [(hm2 e).1]
          exact (hm2 e).2
  · rintro ⟨b0, more⟩ next ⟨f0, hm, hcl⟩
    dsimp only at f0 hm hcl ⊢
    cases more with
    | false =>
      rw [if_neg (by simp)]
      exact done b0 f0 (hcl rfl)
    | true =>
      have h1 := hm rfl
      have h2 := List.count_le_length (l := b0) (a := true)
      have h3 := f0.len
      omega

theorem isSub_eq (hc : Shp c) (sa : Small a) (ha : In (c.From.length : Int) a) : M.impl_Category_isSubcategory c a = some (decide (SubcL c a)) := by
  apply Ret.eq
  have m40 := hc.m40
  have lt := hc.lto
  have li := hc.lid
  have lc := hc.lco
  have sa' := sa
  unfold Small at sa'
  unfold M.impl_Category_isSubcategory
  refine Ret.call (rising_eq sa) (Ret.ite (fun hr => ?_) (fun hr => ?_))
  · have hr := of_decide_eq_true hr
    have hml : ((mrkA (c.From.length : Int) a (a.length : Int)).length : Int) = (c.From.length : Int) := tab_len' _ _ (by omega)
    have hmk : ∀ f, 0 ≤ f → f < (c.From.length : Int) → el (mrkA (c.From.length : Int) a (a.length : Int)) f = decide (f ∈ a) := fun f f0 f1 => by
      unfold mrkA
      rw [el_tab f0 f1, show (((a.length : Nat) : Int)).toNat = a.length by omega, List.take_length]
    refine Ret.call (marks_eq hc sa ha) ?_
    refine Ret.all (a.length : Int) (fun i => (el c.Identity (el c.From (el a i)) ∈ a ∧ el c.Identity (el c.To (el a i)) ∈ a) ∧ ∀ j, 0 ≤ j → j < (a.length : Int) → el c.To (el a i) = el c.From (el a j) → cmp c (el a i) (el a j) ∈ a) (by omega) (by omega) ?_ ?_
    · intro i next i0 i1 hp hn
      have hm : el a i ∈ a := el_mem i0 i1
      have r := ha i i0 i1
      have s := hc.from_in _ r.1 r.2
      have t := hc.to_in _ r.1 r.2
      have is := hc.id_in _ s.1 s.2
      have it := hc.id_in _ t.1 t.2
      rw [if_pos (decide_eq_true i1)]
      refine Ret.idx i0 i1 (Ret.idx r.1 r.2 (Ret.idx s.1 (by omega) (Ret.idx is.1 (by omega) ?_)))
      rw [hmk _ is.1 is.2]
      refine Ret.ite (fun e1 => ?_) (fun e1 => Ret.some ?_)
      · refine Ret.idx r.1 (by omega) (Ret.idx t.1 (by omega) (Ret.idx it.1 (by omega) ?_))
        rw [hmk _ it.1 it.2]
        refine Ret.ite (fun e2 => ?_) (fun e2 => Ret.some ?_)
        · refine Ret.all (a.length : Int) (fun j => el c.To (el a i) = el c.From (el a j) → cmp c (el a i) (el a j) ∈ a) (by omega) (by omega) ?_ ?_
          · intro j nx j0 j1 hq hn2
            have mj : el a j ∈ a := el_mem j0 j1
            have rj := ha j j0 j1
            rw [if_pos (decide_eq_true j1)]
            refine Ret.idx j0 j1 (Ret.call (then_in hc r rj) (Ret.ite (fun e3 => ?_) (fun e3 => hn2 fun z => ?_)))
            · have e3 := of_decide_eq_true e3
              have he : el c.To (el a i) = el c.From (el a j) := by
                apply Decidable.byContradiction
                intro hne
                have := hc.no _ _ r.1 r.2 rj.1 rj.2 hne
                omega
              have y := hc.yes _ _ r.1 r.2 rj.1 rj.2 he
              refine Ret.idx y.1 (by omega) ?_
              rw [hmk _ y.1 y.2]
              refine Ret.ite (fun e4 => hn2 fun _ => of_decide_eq_true e4) (fun e4 => Ret.some ?_)
              rw [decide_eq_false fun z : SubcL c a => e4 (decide_eq_true (z.2.2 _ hm _ mj he))]
            · exact absurd (decide_eq_true (hc.yes _ _ r.1 r.2 rj.1 rj.2 z).1) e3
          · intro nx hq
            rw [if_neg (by simp)]
            exact hn ⟨⟨of_decide_eq_true e1, of_decide_eq_true e2⟩, hq⟩
        · rw [decide_eq_false fun z : SubcL c a => e2 (decide_eq_true (z.2.1 _ hm).2)]
      · rw [decide_eq_false fun z : SubcL c a => e1 (decide_eq_true (z.2.1 _ hm).1)]
    · intro next hp
      rw [if_neg (by simp)]
      refine Ret.some (decide_eq_true ?_).symm
      refine ⟨hr, fun f hf => ?_, fun f hf g hg e => ?_⟩
      · obtain ⟨i, i0, i1, rfl⟩ := mem_el hf
        exact (hp i i0 i1).1
      · obtain ⟨i, i0, i1, rfl⟩ := mem_el hf
        obtain ⟨j, j0, j1, rfl⟩ := mem_el hg
        exact (hp i i0 i1).2 j j0 j1 e
  · rw [decide_eq_false fun z : SubcL c a => hr (decide_eq_true z.1)]
    exact Ret.some rfl
end

theorem l02Arrows_eq {c : XCategory} {a : List Int} (sc : SmallC c) (sa : Small a) : M.spec_l02Arrows c a = some (if IsCat c then if In (c.From.length : Int) a then 0 else 2 else 1) := by
  unfold M.spec_l02Arrows
  rw [l02Is_eq sc, Option.bind_some]
  by_cases h : IsCat c
  · rw [decide_eq_true h, if_pos rfl, l01Map_eq sa, Option.bind_some, if_pos h]
    by_cases h2 : In (c.From.length : Int) a
    · rw [decide_eq_true h2, if_pos rfl, if_pos h2]
    · rw [decide_eq_false h2, if_neg (by simp), if_neg h2]
  · rw [decide_eq_false h, if_neg (by simp), if_neg h]
theorem arrowCode_eq {c : XCategory} {a : List Int} (sc : SmallC c) (sa : Small a) : M.impl_arrowCode c a = some (if IsCat c then if In (c.From.length : Int) a then 0 else 2 else 1) := by
  unfold M.impl_arrowCode M.impl_Category_arrows
  have h1 := sc.s1
  unfold Small at h1
  rw [isCategory_eq sc, Option.bind_some]
  by_cases h : IsCat c
  · rw [decide_eq_true h, if_pos rfl, Option.bind_some, within_eq sa (by omega) (by omega), Option.bind_some, if_pos h]
    by_cases h2 : In (c.From.length : Int) a
    · rw [decide_eq_true h2, if_pos rfl, if_pos h2]
    · rw [decide_eq_false h2, if_neg (by simp), if_neg h2]
  · rw [decide_eq_false h, if_neg (by simp), if_neg h]

theorem subA_small {c : XCategory} {a : List Int} (h : SubA c a) : SmallC (subA c a) := by
  have n8 := h.s.n8
  have m40 := h.s.m40
  have lo := h.len
  have la := h.lenA
  refine ⟨?_, ?_, ?_, ?_, ?_⟩
  · show ((a.map _).length : Int) ≤ _; rw [List.length_map]; omega
  · show ((a.map _).length : Int) ≤ _; rw [List.length_map]; omega
  · show (((objA c a).map _).length : Int) ≤ _; rw [List.length_map]; omega
  · show ((a.map _).length : Int) ≤ _; rw [List.length_map]; omega
  · intro r hr
    obtain ⟨f, _, rfl⟩ := List.mem_map.1 hr
    show ((a.map _).length : Int) ≤ _; rw [List.length_map]; omega

theorem InclusionFunctor_both {c : XCategory} {a : List Int} (sc : SmallC c) (sa : Small a) : ∃ r w, SmallF r ∧ M.spec_InclusionFunctor c a = some (r, w) ∧ M.impl_InclusionFunctor c a = some (r, w) := by
  by_cases h : IsCat c
  · by_cases h2 : In (c.From.length : Int) a
    · have hs := h.1.shp
      have n0 := hs.n0
      have n8 := hs.n8
      have li := hs.lid
      obtain ⟨cl, e1, scl, e2⟩ := l02Close_r hs sa h2
      by_cases q : SubcL c a
      · have hq := q.sub hs h2
        have ss := subA_small hq
        have so : Small (objA c a) := by have := hq.len; unfold Small; omega
        refine ⟨⟨subA c a, c, objA c a, a⟩, 0, ⟨ss, sc, so, sa⟩, ?_, ?_⟩
        · unfold M.spec_InclusionFunctor M.spec_SubcategoryOf
          rw [l02Arrows_eq sc sa, if_pos h, if_pos h2, Option.bind_some, if_neg (by simp), e1, Option.bind_some, l01Same_eq sa scl, decide_eq_true (e2.2 q).symm, Option.bind_some, if_pos rfl, l02Part_eqA hq, Option.bind_some, Option.bind_some, if_neg (by simp)]
          apply Ret.eq
          refine fil_loop (n := c.Objects) (p := fun x => decide (el c.Identity x ∈ a)) n0 (by omega) ?_ ?_
          · intro x next x0 x1 hs' hy hn
            dsimp only
            rw [if_pos (decide_eq_true x1)]
            refine Ret.idx x0 (by omega) (Ret.call (l01Has_eq sa _) (Ret.ite (fun h1 => Ret.chk ?_ (hy h1)) (fun h1 => hn (Bool.eq_false_iff.2 h1))))
            unfold lim; simp only [List.length_cons, List.length_nil]; omega
          · intro next
            dsimp only
            rw [if_neg (by simp)]
            exact Ret.call (l06Make_eq ss sc so sa) (Ret.some rfl)
        · unfold M.impl_InclusionFunctor M.impl_SubcategoryOf
          rw [arrowCode_eq sc sa, if_pos h, if_pos h2, Option.bind_some, if_neg (by simp), isSub_eq hs sa h2, decide_eq_true q, Option.bind_some, if_pos rfl, sub_eqA hq, Option.bind_some, Option.bind_some, if_neg (by simp), Option.bind_some]
          rw [functor_eq ss sc so sa]; rfl
      · refine ⟨zeroF, 5, zeroF_small, ?_, ?_⟩
        · unfold M.spec_InclusionFunctor M.spec_SubcategoryOf
          rw [l02Arrows_eq sc sa, if_pos h, if_pos h2, Option.bind_some, if_neg (by simp), e1, Option.bind_some, l01Same_eq sa scl, decide_eq_false (fun z => q (e2.1 z.symm)), Option.bind_some, if_neg (by simp), Option.bind_some, if_pos (by simp)]; rfl
        · unfold M.impl_InclusionFunctor M.impl_SubcategoryOf
          rw [arrowCode_eq sc sa, if_pos h, if_pos h2, Option.bind_some, if_neg (by simp), isSub_eq hs sa h2, decide_eq_false q, Option.bind_some, if_neg (by simp), Option.bind_some, if_pos (by simp)]; rfl
    · refine ⟨zeroF, 2, zeroF_small, ?_, ?_⟩
      · unfold M.spec_InclusionFunctor M.spec_SubcategoryOf
        rw [l02Arrows_eq sc sa, if_pos h, if_neg h2, Option.bind_some, if_pos (by simp), Option.bind_some, if_pos (by simp)]; rfl
      · unfold M.impl_InclusionFunctor M.impl_SubcategoryOf
        rw [arrowCode_eq sc sa, if_pos h, if_neg h2, Option.bind_some, if_pos (by simp), Option.bind_some, if_pos (by simp)]; rfl
  · refine ⟨zeroF, 1, zeroF_small, ?_, ?_⟩
    · unfold M.spec_InclusionFunctor M.spec_SubcategoryOf
      rw [l02Arrows_eq sc sa, if_neg h, Option.bind_some, if_pos (by simp), Option.bind_some, if_pos (by simp)]; rfl
    · unfold M.impl_InclusionFunctor M.impl_SubcategoryOf
      rw [arrowCode_eq sc sa, if_neg h, Option.bind_some, if_pos (by simp), Option.bind_some, if_pos (by simp)]; rfl

theorem law_InclusionFunctor {a0 : XCategory} {a1 : List Int} (h0 : R.XCategory a0) (_ : AllL I64 a1) : M.laws_FnExactInclusionFunctor a0 a1 = some true := by
  unfold M.laws_FnExactInclusionFunctor
  by_cases z1 : (a1.length : Int) > 1048576
  · rw [if_pos (decide_eq_true z1)]
  · rw [if_neg (fun h => absurd (of_decide_eq_true h) z1)]
    have s1 : Small a1 := by unfold Small; omega
    obtain ⟨v0, e0, hv0⟩ := szCategory_r (n := 1048576) (by decide) (by decide) (fitsC h0)
    rw [e0, Option.bind_some]
    rcases hv0 with ⟨z0, _⟩ | ⟨l0, u0, s0⟩
    · rw [if_pos (decide_eq_true z0)]
    · rw [if_neg (fun h => absurd (of_decide_eq_true h) (by omega))]
      rw [toCategory_eq s0, Option.bind_some, toInt64S_eq s1, Option.bind_some]
      obtain ⟨g0, w, hg0, es, ei⟩ := InclusionFunctor_both s0 s1
      rw [es, ei]
      simp only [Option.bind_some]
      rw [eqFunctor_refl hg0, eqCategory_refl s0, eqInt64S_refl s1]
      obtain ⟨n0, x0, p0, q0, c0, d0, _⟩ := mh_C s0 1 (by omega) (by omega)
      obtain ⟨n1, x1, p1, q1, c1, d1, _⟩ := mh_S s1 (1 + n0) (by omega) (by omega)
      obtain ⟨n2, x2, p2, q2, c2, d2, _⟩ := mh_F hg0 1 (by omega) (by omega)
      simp only [Option.bind_some, bne_self_eq_false, Bool.false_eq_true, if_false, if_true, decide_eq_true_eq, c0, c1, c2, d2]
      rw [if_neg (by omega), if_neg (by omega)]

end Go.Gx
