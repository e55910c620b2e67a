/- Ghost steps, further: a root goes back into its cell; a root takes another name; roots are lent for good. -/
import Derived.Test.YtggojehmbpbefaaGxR
namespace Go.Gx
theorem mem_menL {d : D} {m : Nat} : ∀ {ds : List D}, d ∈ ds → m ∈ d.men → m ∈ menL ds
  | d' :: ds, h, hm => by
    simp only [menL, List.mem_append]
    rcases List.mem_cons.1 h with rfl | h
    · exact .inl hm
    · exact .inr (mem_menL h hm)

section
variable {np : Nat} {st st' : St}

theorem imp_demote {r i q sz sz' n : Nat} {cells ds : List D} {refs refs' : List Nat} (hr : look st (2 * r + 1) = some (.r (.arr sz cells refs))) (hq : look st (2 * q + 1) = some (.r (.arr sz' ds []))) (hne : r ≠ q)
    (hc : cells[i]? = some (.rs q 0 n)) (hl : ds.length = n * sz') (hsub : ∀ m ∈ menL (cells.set i (.fr sz' n ds)), refs.contains m = true ∧ refs'.contains m = true) :
    Imp np st (updSt st [(2 * r + 1, some (.r (.arr sz (cells.set i (.fr sz' n ds)) refs'))), (2 * q + 1, none)]) := fun Γ hnp a w hs => by
  obtain ⟨S, β, Fs, hi⟩ := hs
  unfold Sat
  rw [look_updSt]
  have hroot := hi.roots r _ hr
  have hrootq := hi.roots q _ hq
  have hil : i < cells.length := (List.getElem?_eq_some_iff.1 hc).1
  cases eb : β r with
  | none => rw [eb] at hroot; exact hroot.ne.elim
  | nil => rw [eb] at hroot; rw [hroot.1] at hil; simp at hil
  | blk b o szb m =>
    rw [eb] at hroot
    obtain ⟨rfl, pre, ys, rest, E, F', h1, h2, h3, hF, h5, h6⟩ := hroot
    obtain ⟨ya, y, yb, Fa, Fd, Fb, rfl, hya, rfl, h0, hd, ha, hb⟩ := RepL_mid h5 hc
    have hFd : Fd = [] := by unfold Rep at hd; exact hd.1
    subst hFd
    have hqref : refs.contains q = true := h6 q (mem_menL (List.mem_of_getElem? hc) (by simp [D.men]))
    have hyq : Rep w S (.fr sz' n ds) (β.res refs') y (Fs q) := by
      unfold Rep at hd ⊢
      have hd2 := hd.2
      unfold Beta.res at hd2
      rw [if_pos hqref] at hd2
      cases ebq : β q with
      | none => rw [ebq] at hrootq; exact hrootq.ne.elim
      | nil =>
        rw [ebq] at hd2 hrootq
        obtain ⟨rfl, _, rfl⟩ := hd2
        obtain ⟨rfl, hFq⟩ := hrootq
        exact ⟨_, _, rfl, by simp, rfl, .inl ⟨rfl, rfl, rfl, hFq⟩⟩
      | blk b2 o2 sz2 m2 =>
        rw [ebq] at hd2 hrootq
        obtain ⟨cap, rfl, k1, k2⟩ := hd2
        obtain ⟨rfl, pre2, ys2, rest2, E2, F2, g1, g2, g3, g4, g5, g6⟩ := hrootq
        refine ⟨_, _, rfl, hl, ?_, .inr ⟨b2, o2, pre2, ys2, rest2, E2, F2, by simp, k1, by rw [← g2]; simpa using k2, g1, g3, g4, by rw [noB_res (β := β)]; exact g5⟩⟩
        cases hm : menL ds with
        | nil => rfl
        | cons m l => have := g6 m (by rw [hm]; simp); simp at this
    have hresE : ∀ m ∈ menL (cells.set i (.fr sz' n ds)), (β.res refs') m = (β.res refs) m := fun m hm => by
      unfold Beta.res; rw [if_pos (hsub m hm).1, if_pos (hsub m hm).2]
    have eset : cells.set i (.fr sz' n ds) = cells.take i ++ D.fr sz' n ds :: cells.drop (i + 1) := by rw [List.set_eq_take_append_cons_drop, if_pos hil]
    have hmt : ∀ m ∈ menL (cells.take i), m ∈ menL (cells.set i (.fr sz' n ds)) := fun m hm => by rw [eset, menL_append]; simp [hm]
    have hmd : ∀ m ∈ menL (cells.drop (i + 1)), m ∈ menL (cells.set i (.fr sz' n ds)) := fun m hm => by rw [eset, menL_append]; simp [menL, hm]
    have hnd := hi.nodup r
    rw [hF] at hnd
    have hsubr : ∀ c ∈ b :: (Fa ++ [] ++ Fb), c ∈ Fs r := fun c hc => by rw [hF]; exact hc
    have hcross : ∀ c ∈ Fs q, c ∉ b :: (Fa ++ [] ++ Fb) := fun c hc hc' => hi.disj q r (Ne.symm hne) c hc (hsubr c hc')
    have hupd : ∀ k, upd (look st) [(2 * r + 1, some (Ent.r (.arr szb (cells.set i (.fr sz' n ds)) refs'))), (2 * q + 1, none)] k = if k = 2 * r + 1 then some (Ent.r (.arr szb (cells.set i (.fr sz' n ds)) refs')) else if k = 2 * q + 1 then none else look st k := fun k => rfl
    refine ⟨S, β, fun p => if p = r then b :: (Fa ++ Fs q ++ Fb) else if p = q then [] else Fs p, {
      defers := hi.defers, size := hi.size, slots := ?_, roots := ?_, noroot := ?_, nodup := ?_, disj := ?_, own := ?_, s0 := hi.s0, sOk := hi.sOk, ext := hi.ext, fix := hi.fix }⟩
    · intro t e he
      rw [hupd, if_neg (by omega), if_neg (by omega)] at he
      exact hi.slots t e he
    · intro p x hx
      rw [hupd] at hx
      by_cases e : p = r
      · subst e
        rw [if_pos rfl] at hx; cases hx
        simp only [if_true]
        rw [eb]
        refine ⟨rfl, pre, _, rest, E, Fa ++ Fs q ++ Fb, h1, h2, h3, rfl, ?_, fun m hm => (hsub m hm).2⟩
        exact RepL_put hil (RepL.beta _ _ _ (fun m hm => hresE m (hmt m hm)) ha) h0 hyq (RepL.beta _ _ _ (fun m hm => hresE m (hmd m hm)) hb)
      · rw [if_neg (by omega)] at hx
        by_cases e' : p = q
        · subst e'; rw [if_pos rfl] at hx; cases hx
        · rw [if_neg (by omega)] at hx
          simp only [if_neg e, if_neg e']
          exact hi.roots p x hx
    · intro p hp
      by_cases e : p = r
      · subst e; exact absurd (by rw [hupd, if_pos rfl]) (hp (.arr szb (cells.set i (.fr sz' n ds)) refs'))
      · simp only [if_neg e]
        by_cases e' : p = q
        · simp only [if_pos e']
        · simp only [if_neg e']
          exact hi.noroot p fun x hx => hp x (by rw [hupd, if_neg (by omega), if_neg (by omega)]; exact hx)
    · intro p
      split
      · have hpm : (b :: (Fa ++ Fs q ++ Fb)).Perm (Fs q ++ b :: (Fa ++ [] ++ Fb)) := by
          rw [List.append_nil, List.append_assoc]
          have : (Fs q ++ b :: (Fa ++ Fb)).Perm (b :: (Fs q ++ (Fa ++ Fb))) := List.perm_middle
          refine List.Perm.trans ?_ this.symm
          refine List.Perm.cons b ?_
          rw [← List.append_assoc, ← List.append_assoc]
          exact List.Perm.append_right _ List.perm_append_comm
        refine hpm.nodup_iff.2 (List.nodup_append.2 ⟨hi.nodup q, hnd, fun c hc c' hc' e => ?_⟩)
        subst e; exact hcross c hc hc'
      · split
        · exact List.nodup_nil
        · exact hi.nodup p
    · have hR : ∀ c ∈ b :: (Fa ++ Fs q ++ Fb), c ∈ Fs r ∨ c ∈ Fs q := fun c hc => by rw [hF]; simp at hc ⊢; rcases hc with h | h | h | h <;> simp [h]
      intro p p' hpp c hc hc'
      by_cases e : p = r
      · simp only [if_pos e] at hc
        have e' : p' ≠ r := fun h => hpp (e.trans h.symm)
        simp only [if_neg e'] at hc'
        split at hc'
        · cases hc'
        · rename_i e2
          rcases hR c hc with h | h
          · exact hi.disj r p' (Ne.symm e') c h hc'
          · exact hi.disj q p' (Ne.symm e2) c h hc'
      · simp only [if_neg e] at hc
        split at hc
        · cases hc
        · rename_i e1
          by_cases e' : p' = r
          · simp only [if_pos e'] at hc'
            rcases hR c hc' with h | h
            · exact hi.disj p r e c hc h
            · exact hi.disj p q e1 c hc h
          · simp only [if_neg e'] at hc'
            split at hc'
            · cases hc'
            · exact hi.disj p p' hpp c hc hc'
    · intro p c hc
      by_cases e : p = r
      · simp only [if_pos e] at hc
        have : c ∈ Fs r ∨ c ∈ Fs q := by rw [hF]; simp at hc ⊢; rcases hc with h | h | h | h <;> simp [h]
        rcases this with h | h
        · exact hi.own r c h
        · exact hi.own q c h
      · simp only [if_neg e] at hc
        split at hc
        · cases hc
        · exact hi.own p c hc

/-! ### other names -/
mutual
def D.ren (f : Nat → Nat) : D → D
  | .agg ds => .agg (renL f ds)
  | .tup ds => .tup (renL f ds)
  | .rs r off n => .rs (f r) off n
  | .rp r off => .rp (f r) off
  | .rm r => .rm (f r)
  | .fn g caps => .fn g (renL f caps)
  | .ifc t d => .ifc t (d.ren f)
  | d => d
def renL (f : Nat → Nat) : List D → List D
  | [] => []
  | d :: ds => d.ren f :: renL f ds
end

mutual
theorem Rep.ren {w : World} {S : Nat → Prop} {β β' : Beta} {f : Nat → Nat} : ∀ (d : D) (y : Value) (F : List Nat), (∀ m ∈ d.men, β' (f m) = β m) → Rep w S d β y F → Rep w S (d.ren f) β' y F
  | .any, _, _, _, h => by unfold D.ren; unfold Rep at *; exact h
  | .v x, _, _, _, h => by unfold D.ren; unfold Rep at *; exact h
  | .agg ds, y, F, hm, h => by
    unfold D.ren; unfold Rep at *; obtain ⟨ys, e, h⟩ := h; exact ⟨ys, e, RepL.ren ds ys F (by unfold D.men at hm; exact hm) h⟩
  | .tup ds, y, F, hm, h => by
    unfold D.ren; unfold Rep at *; obtain ⟨ys, e, h⟩ := h; exact ⟨ys, e, RepT.ren ds ys F (by unfold D.men at hm; exact hm) h⟩
  | .sl n off ds, y, F, hm, h => by unfold D.ren; unfold Rep at *; exact h
  | .pt ds off, y, F, hm, h => by unfold D.ren; unfold Rep at *; exact h
  | .fr sz n ds, y, F, hm, h => by unfold D.ren; unfold Rep at *; exact h
  | .rs r off n, y, F, hm, h => by unfold D.ren; unfold Rep at *; rw [hm r (by simp [D.men])]; exact h
  | .rp r off, y, F, hm, h => by unfold D.ren; unfold Rep at *; rw [hm r (by simp [D.men])]; exact h
  | .fn g caps, y, F, hm, h => by
    unfold D.ren; unfold Rep at *; obtain ⟨ys, e, h⟩ := h; exact ⟨ys, e, RepL.ren caps ys F (by unfold D.men at hm; exact hm) h⟩
  | .ifc t d, y, F, hm, h => by
    unfold D.ren; unfold Rep at *; obtain ⟨x, e, h⟩ := h; exact ⟨x, e, Rep.ren d x F (by unfold D.men at hm; exact hm) h⟩
  | .rm r, y, F, hm, h => by unfold D.ren; unfold Rep at *; rw [hm r (by simp [D.men])]; exact h
  | .bm es, y, F, hm, h => by unfold D.ren; unfold Rep at *; exact h
  | .fb f caps, y, F, hm, h => by unfold D.ren; unfold Rep at *; exact h
theorem RepL.ren {w : World} {S : Nat → Prop} {β β' : Beta} {f : Nat → Nat} : ∀ (ds : List D) (ys : List Value) (F : List Nat), (∀ m ∈ menL ds, β' (f m) = β m) → RepL w S ds β ys F → RepL w S (renL f ds) β' ys F
  | [], _, _, _, h => by unfold renL; unfold RepL at *; exact h
  | d :: ds, ys, F, hm, h => by
    unfold renL; unfold RepL at *
    obtain ⟨y, ys', F1, F2, e1, e2, h0, h1, h2⟩ := h
    unfold menL at hm
    exact ⟨y, ys', F1, F2, e1, e2, h0, Rep.ren d y F1 (fun r hr => hm r (by simp [hr])) h1, RepL.ren ds ys' F2 (fun r hr => hm r (by simp [hr])) h2⟩
theorem RepT.ren {w : World} {S : Nat → Prop} {β β' : Beta} {f : Nat → Nat} : ∀ (ds : List D) (ys : List Value) (F : List Nat), (∀ m ∈ menL ds, β' (f m) = β m) → RepT w S ds β ys F → RepT w S (renL f ds) β' ys F
  | [], _, _, _, h => by unfold renL; unfold RepT at *; exact h
  | d :: ds, ys, F, hm, h => by
    unfold renL; unfold RepT at *
    obtain ⟨y, ys', F1, F2, e1, e2, h1, h2⟩ := h
    unfold menL at hm
    exact ⟨y, ys', F1, F2, e1, e2, Rep.ren d y F1 (fun r hr => hm r (by simp [hr])) h1, RepT.ren ds ys' F2 (fun r hr => hm r (by simp [hr])) h2⟩
end

mutual
theorem D.men_ren (f : Nat → Nat) : ∀ d : D, (d.ren f).men = d.men.map f
  | .any | .v _ | .sl _ _ _ | .pt _ _ | .fr _ _ _ | .bm _ | .fb _ _ => by simp [D.ren, D.men]
  | .agg ds | .tup ds | .fn _ ds => by simp [D.ren, D.men, menL_ren f ds]
  | .rs _ _ _ | .rp _ _ | .rm _ => by simp [D.ren, D.men]
  | .ifc _ d => by simp [D.ren, D.men, D.men_ren f d]
theorem menL_ren (f : Nat → Nat) : ∀ ds : List D, menL (renL f ds) = (menL ds).map f
  | [] => by simp [renL, menL]
  | d :: ds => by simp [renL, menL, D.men_ren f d, menL_ren f ds]
end

def swapN (r q : Nat) (m : Nat) : Nat := if m = r then q else m

def renE (r q : Nat) : Ent → Ent
  | .d x => .d (x.ren (swapN r q))
  | .r (.arr sz cells refs) => if refs.contains r then .r (.arr sz (renL (swapN r q) cells) (refs.map (swapN r q))) else .r (.arr sz cells refs)
  | .r (.mp es) => .r (.mp es)

/-- The state with root r named q. -/
def renSt (r q : Nat) : St → St
  | [] => []
  | p :: l => ((if p.1 = 2 * r + 1 then 2 * q + 1 else p.1), renE r q p.2) :: renSt r q l

theorem look_renSt {r q : Nat} : ∀ {st : St}, (∀ p ∈ st, p.1 ≠ 2 * q + 1) → ∀ k, look (renSt r q st) k = if k = 2 * q + 1 then (look st (2 * r + 1)).map (renE r q) else if k = 2 * r + 1 then none else (look st k).map (renE r q)
  | [], _, k => by simp [renSt, look]
  | p :: l, h, k => by
    have hp := h p (by simp)
    have ih := look_renSt (r := r) (q := q) (st := l) (fun p hp => h p (by simp [hp])) k
    show (if k = (if p.1 = 2 * r + 1 then 2 * q + 1 else p.1) then some (renE r q p.2) else look (renSt r q l) k) = _
    rw [ih]
    show _ = if k = 2 * q + 1 then (if 2 * r + 1 = p.1 then some p.2 else look l (2 * r + 1)).map (renE r q) else if k = 2 * r + 1 then none else (if k = p.1 then some p.2 else look l k).map (renE r q)
    by_cases e1 : p.1 = 2 * r + 1
    · rw [if_pos e1]
      by_cases e2 : k = 2 * q + 1
      · rw [if_pos e2, if_pos e2, if_pos e1.symm]; rfl
      · rw [if_neg e2, if_neg e2, if_neg e2]
        by_cases e3 : k = 2 * r + 1
        · rw [if_pos e3, if_pos e3]
        · rw [if_neg e3, if_neg e3, if_neg (by rw [e1]; exact e3)]
    · rw [if_neg e1]
      by_cases e2 : k = 2 * q + 1
      · rw [if_neg (by rw [e2]; exact fun e => hp e.symm), if_pos e2, if_pos e2, if_neg (fun e => e1 e.symm)]
      · rw [if_neg e2, if_neg e2]
        by_cases e3 : k = 2 * r + 1
        · rw [if_pos e3, if_pos e3, if_neg (by rw [e3]; exact fun e => e1 e.symm)]
        · rw [if_neg e3, if_neg e3]
          by_cases e4 : k = p.1
          · rw [if_pos e4, if_pos e4]; rfl
          · rw [if_neg e4, if_neg e4]

theorem imp_rename {r q : Nat} (hf : freshB np st q = true) (hr : np ≤ r) : Imp np st (renSt r q st) := fun Γ hnp a w hs => by
  obtain ⟨S, β, Fs, hi⟩ := hs
  obtain ⟨hnq, hfq⟩ := freshB_spec hf
  have hk : ∀ p ∈ st, p.1 ≠ 2 * q + 1 := fun p hp => by
    simp only [freshB, Bool.and_eq_true, List.all_eq_true] at hf
    have := (hf.2 p hp).1
    simpa using this
  by_cases hqr : q = r
  · subst hqr
    have : ∀ k e, look (renSt q q st) k = some e → look st k = some e := by
      intro k e he
      rw [look_renSt hk] at he
      by_cases e1 : k = 2 * q + 1
      · rw [if_pos e1] at he
        cases h : look st (2 * q + 1) with
        | none => rw [h] at he; cases he
        | some e => exact absurd rfl (hfq _ _ h).1
      · rw [if_neg e1, if_neg e1] at he
        cases h : look st k with
        | none => rw [h] at he; cases he
        | some x =>
          rw [h] at he
          have hid : swapN q q = id := by funext m; unfold swapN; split <;> simp_all
          have hrd : ∀ d : D, d.ren id = d := by
            intro d
            refine D.rec (motive_1 := fun d => d.ren id = d) (motive_2 := fun ds => renL id ds = ds) ?_ ?_ ?_ ?_ ?_ ?_ ?_ ?_ ?_ ?_ ?_ ?_ ?_ ?_ ?_ ?_ d <;> intros <;> simp_all [D.ren, renL]
          have : renE q q x = x := by
            have hn := (hfq _ _ h).2
            cases x with
            | d x => simp [renE, hid, hrd]
            | r x => cases x with
              | arr sz cells refs => simp only [Ent.names] at hn; simp only [renE, hn, Bool.false_eq_true, if_false]
              | mp es => rfl
          simp [this] at he; rw [he]
    obtain ⟨Fs', hi'⟩ := hi.weaken this
    exact ⟨S, β, Fs', hi'⟩
  have hlk := look_renSt (r := r) (q := q) hk
  have hsw : ∀ m, m ≠ q → setB β q (β r) (swapN r q m) = β m := fun m hm => by
    unfold swapN setB
    by_cases e : m = r
    · rw [if_pos e, if_pos rfl, e]
    · rw [if_neg e, if_neg hm]
  have hbq : ∀ p, p ≠ q → setB β q (β r) p = β p := fun p hp => by unfold setB; rw [if_neg hp]
  have hroot : ∀ x rb F k, look st k = some (.r x) → RootRep w S β x rb F → ∀ x', renE r q (.r x) = .r x' → RootRep w S (setB β q (β r)) x' rb F := by
    intro x rb F k hx h x' he
    have hn := (hfq _ _ hx).2
    cases x with
    | mp es => simp [renE] at he; subst he; cases rb <;> exact h
    | arr sz cells refs =>
      simp only [Ent.names] at hn
      simp only [renE] at he
      split at he
      · rename_i hc
        cases he
        cases rb with
        | none => exact h.ne.elim
        | nil => obtain ⟨rfl, e⟩ := h; exact ⟨by simp [renL], e⟩
        | blk b o sz' m =>
          obtain ⟨e, pre, ys, rest, E, F', k1, k2, k3, k4, k5, k6⟩ := h
          refine ⟨e, pre, ys, rest, E, F', k1, k2, k3, k4, RepL.ren _ _ _ (fun m hm => ?_) k5, fun m hm => ?_⟩
          · have hmr := k6 m hm
            have hmq : m ≠ q := fun e => by rw [e, hn] at hmr; cases hmr
            unfold Beta.res
            rw [if_pos hmr, if_pos (by simp only [List.contains_iff_mem, List.mem_map] at hmr ⊢; exact ⟨m, hmr, rfl⟩)]
            exact hsw m hmq
          · rw [menL_ren] at hm
            obtain ⟨m', hm', rfl⟩ := List.mem_map.1 hm
            have := k6 m' hm'
            simp only [List.contains_iff_mem, List.mem_map] at this ⊢
            exact ⟨m', this, rfl⟩
      · cases he
        exact h.setB (by simpa [Ent.names] using hn)
  refine ⟨S, setB β q (β r), fun p => if p = q then Fs r else if p = r then [] else Fs p, {
    defers := hi.defers, size := hi.size, slots := ?_, roots := ?_, noroot := ?_, nodup := ?_, disj := ?_, own := ?_, s0 := hi.s0, sOk := hi.sOk, ext := hi.ext, fix := ?_ }⟩
  · intro t e he
    rw [hlk, if_neg (by omega), if_neg (by omega)] at he
    cases h : look st (2 * t) with
    | none => rw [h] at he; cases he
    | some x =>
      rw [h] at he
      cases x with
      | r x => cases x with
        | mp es => simp [renE] at he
        | arr sz cells refs =>
          simp only [Option.map_some, renE] at he
          split at he <;> cases he
      | d x =>
        simp [renE] at he; subst he
        refine Rep.ren x _ _ (fun m hm => hsw m ?_) (hi.slots t x h)
        have := (hfq _ _ h).2
        simp only [Ent.names] at this
        rintro rfl
        simp at this; exact this hm
  · intro p x hx
    rw [hlk] at hx
    by_cases e : p = q
    · subst e
      rw [if_pos rfl] at hx
      simp only [if_true]
      have : setB β p (β r) p = β r := by simp [setB]
      rw [this]
      cases h : look st (2 * r + 1) with
      | none => rw [h] at hx; cases hx
      | some e => cases e with
        | d d => rw [h] at hx; simp [renE] at hx
        | r x0 =>
          rw [h] at hx
          simp only [Option.map_some, Option.some.injEq] at hx
          exact hroot x0 _ _ _ h (hi.roots r x0 h) x hx
    · rw [if_neg (by omega)] at hx
      by_cases e' : p = r
      · subst e'; rw [if_pos rfl] at hx; cases hx
      · rw [if_neg (by omega)] at hx
        simp only [if_neg e, if_neg e']
        rw [hbq p e]
        cases h : look st (2 * p + 1) with
        | none => rw [h] at hx; cases hx
        | some e => cases e with
          | d d => rw [h] at hx; simp [renE] at hx
          | r x0 =>
            rw [h] at hx
            simp only [Option.map_some, Option.some.injEq] at hx
            exact hroot x0 _ _ _ h (hi.roots p x0 h) x hx
  · have hnr : ∀ p k, k = 2 * p + 1 → (∀ x, look (renSt r q st) k ≠ some (.r x)) → look (renSt r q st) k = (look st (2 * (if p = q then r else p) + 1)).map (renE r q) → Fs (if p = q then r else p) = [] := by
      intro p k _ h1 h2
      refine hi.noroot _ fun x hx => ?_
      rw [hx] at h2
      cases hx' : renE r q (.r x) with
      | d d => cases x with
        | mp es => simp [renE] at hx'
        | arr sz cells refs => simp only [renE] at hx'; split at hx' <;> cases hx'
      | r x' => rw [Option.map_some, hx'] at h2; exact h1 x' h2
    intro p hp
    by_cases e : p = q
    · simp only [if_pos e]
      have := hnr p _ rfl hp (by rw [hlk, if_pos (by rw [e]), if_pos e])
      rwa [if_pos e] at this
    · simp only [if_neg e]
      by_cases e' : p = r
      · simp only [if_pos e']
      · simp only [if_neg e']
        have := hnr p _ rfl hp (by rw [hlk, if_neg (by omega), if_neg (by omega), if_neg e])
        rwa [if_neg e] at this
  · intro p; split
    · exact hi.nodup r
    · split
      · exact List.nodup_nil
      · exact hi.nodup p
  · intro p p' hne c hc hc'
    by_cases e : p = q
    · simp only [if_pos e] at hc
      have e' : p' ≠ q := fun h => hne (e.trans h.symm)
      simp only [if_neg e'] at hc'
      split at hc'
      · cases hc'
      · rename_i e2; exact hi.disj r p' (Ne.symm e2) c hc hc'
    · simp only [if_neg e] at hc
      split at hc
      · cases hc
      · rename_i e1
        by_cases e' : p' = q
        · simp only [if_pos e'] at hc'
          exact hi.disj p r e1 c hc hc'
        · simp only [if_neg e'] at hc'
          split at hc'
          · cases hc'
          · exact hi.disj p p' hne c hc hc'
  · intro p c hc
    by_cases e : p = q
    · simp only [if_pos e] at hc; exact hi.own r c hc
    · simp only [if_neg e] at hc
      split at hc
      · cases hc
      · exact hi.own p c hc
  · intro p hp
    rw [hbq p (by omega)]
    exact hi.fix p hp
end
end Go.Gx
