/- Ghost steps: what is known may be known otherwise. -/
import Derived.Test.YtggojehmbpbefaaGxQ
namespace Go.Gx

/-! ### states as lists -/
theorem needs_look {st : St} {x : Operand} : Needs (look st) (needOf st x) := by
  cases x with
  | tmp t =>
    simp only [needOf]
    split
    · rename_i d h; exact ⟨h, trivial⟩
    · trivial
  | _ => trivial

theorem needs_all {st : St} : ∀ {l : List Operand}, Needs (look st) (needAll st l)
  | [] => trivial
  | x :: l => by rw [needAll, Needs.append]; exact ⟨needs_look, needs_all⟩

theorem needs_root {st : St} {r : Nat} : Needs (look st) (needRoot st r) := by
  unfold needRoot
  split
  · rename_i x h; exact ⟨h, trivial⟩
  · trivial

theorem needs_roots {st : St} : ∀ {l : List Nat}, Needs (look st) (needRoots st l)
  | [] => trivial
  | r :: l => by rw [needRoots, Needs.append]; exact ⟨needs_root, needs_roots⟩

def delK (k : Nat) : St → St
  | [] => []
  | p :: l => if p.1 = k then delK k l else p :: delK k l

theorem look_delK (k q : Nat) : ∀ (st : St), look (delK k st) q = if q = k then none else look st q
  | [] => by simp [delK, look]
  | p :: l => by
    simp only [delK]
    by_cases h : p.1 = k
    · rw [if_pos h, look_delK k q l]
      by_cases hq : q = k
      · rw [if_pos hq, if_pos hq]
      · rw [if_neg hq, if_neg hq]
        show _ = (if q = p.1 then some p.2 else look l q)
        rw [if_neg (by rw [h]; exact hq)]
    · rw [if_neg h]
      show (if q = p.1 then some p.2 else look (delK k l) q) = if q = k then none else (if q = p.1 then some p.2 else look l q)
      rw [look_delK k q l]
      by_cases hq : q = k
      · subst hq; rw [if_neg (fun e => h e.symm), if_pos rfl, if_pos rfl]
      · rw [if_neg hq, if_neg hq]

def updSt (st : St) : Wr → St
  | [] => st
  | (k, some e) :: r => (k, e) :: updSt st r
  | (k, none) :: r => delK k (updSt st r)

theorem look_updSt (st : St) : ∀ (wr : Wr), look (updSt st wr) = upd (look st) wr
  | [] => rfl
  | (k, some e) :: r => by
    funext q
    show (if q = k then some e else look (updSt st r) q) = if q = k then some e else upd (look st) r q
    rw [look_updSt st r]
  | (k, none) :: r => by
    funext q
    show look (delK k (updSt st r)) q = if q = k then none else upd (look st) r q
    rw [look_delK, look_updSt st r]

def selSt (st : St) : List Nat → Option St
  | [] => some []
  | k :: l => match look st k, selSt st l with
    | some e, some s => some ((k, e) :: s)
    | _, _ => none

theorem selSt_sub {st : St} : ∀ {ks : List Nat} {st' : St}, selSt st ks = some st' → ∀ k e, look st' k = some e → look st k = some e
  | [], st', h, k, e, he => by simp only [selSt, Option.some.injEq] at h; subst h; cases he
  | q :: l, st', h, k, e, he => by
    simp only [selSt] at h
    split at h
    · rename_i e' s h1 h2
      cases h
      have he' : (if k = q then some e' else look s k) = some e := he
      by_cases hk : k = q
      · rw [if_pos hk] at he'; rw [hk, h1, he']
      · rw [if_neg hk] at he'; exact selSt_sub h2 k e he'
    · cases h

def freshB (np : Nat) (st : St) (r : Nat) : Bool := decide (np ≤ r) && st.all fun p => p.1 != 2 * r + 1 && !p.2.names r

theorem look_mem {st : St} {k : Nat} {e : Ent} (h : look st k = some e) : (k, e) ∈ st := by
  induction st with
  | nil => cases h
  | cons p l ih =>
    have h' : (if k = p.1 then some p.2 else look l k) = some e := h
    by_cases hk : k = p.1
    · rw [if_pos hk] at h'; cases h'; subst hk; simp
    · rw [if_neg hk] at h'; exact List.mem_cons_of_mem _ (ih h')

theorem freshB_spec {np : Nat} {st : St} {r : Nat} (h : freshB np st r = true) : np ≤ r ∧ FreshName (look st) r := by
  simp only [freshB, Bool.and_eq_true, decide_eq_true_eq, List.all_eq_true] at h
  refine ⟨h.1, fun k e he => ?_⟩
  have := h.2 _ (look_mem he)
  simpa using this

section
variable {np : Nat} {st st' : St}

theorem imp_sub (h : ∀ k e, look st' k = some e → look st k = some e) : Imp np st st' := fun Γ _ a w hs => by
  obtain ⟨S, β, Fs, hi⟩ := hs
  obtain ⟨Fs', hi'⟩ := hi.weaken h
  exact ⟨S, β, Fs', hi'⟩

theorem imp_sel {ks : List Nat} (h : selSt st ks = some st') : Imp np st st' := imp_sub (selSt_sub h)

/-! ### a value known otherwise -/
def Sub (d d' : D) : Prop := ∀ (w : World) (S : Nat → Prop) (β : Beta) (y : Value) (F : List Nat), Rep w S d β y F → Rep w S d' β y F
def SubL (ds ds' : List D) : Prop := ∀ (w : World) (S : Nat → Prop) (β : Beta) (ys : List Value) (F : List Nat), RepL w S ds β ys F → RepL w S ds' β ys F

theorem Sub.refl (d : D) : Sub d d := fun _ _ _ _ _ h => h
theorem Sub.of_eq {d d' : D} (h : d = d') : Sub d d' := h ▸ Sub.refl d
theorem SubL.of_eq {d d' : List D} (h : d = d') : SubL d d' := by subst h; exact fun _ _ _ _ _ h => h
theorem SubL.nil : SubL [] [] := fun _ _ _ _ _ h => h
theorem SubL.cons {d d' : D} {ds ds' : List D} (h : Sub d d') (h' : SubL ds ds') : SubL (d :: ds) (d' :: ds') := fun w S β ys F hr => by
  unfold RepL at hr ⊢
  obtain ⟨y, ys', F1, F2, e1, e2, h0, h1, h2⟩ := hr
  exact ⟨y, ys', F1, F2, e1, e2, h0, h _ _ _ _ _ h1, h' _ _ _ _ _ h2⟩
theorem Sub.any {d : D} (hd : d.noFr = true) : Sub d .any := fun w S β y F h => by unfold Rep; exact Rep.noF hd h
theorem Sub.agg {ds ds' : List D} (h : SubL ds ds') : Sub (.agg ds) (.agg ds') := fun w S β y F hr => by
  unfold Rep at hr ⊢
  obtain ⟨ys, e, hr⟩ := hr
  exact ⟨ys, e, h _ _ _ _ _ hr⟩
theorem Sub.nil_fr {sz : Nat} : Sub (.v (.slice .none 0 0)) (.fr sz 0 []) := fun w S β y F h => by
  unfold Rep at h ⊢
  obtain ⟨rfl, rfl⟩ := h
  exact ⟨_, _, rfl, by simp, rfl, .inl ⟨rfl, rfl, rfl, rfl⟩⟩
theorem Sub.nil_sl : Sub (.v (.slice .none 0 0)) (.sl 0 0 []) := fun w S β y F h => by
  unfold Rep at h ⊢
  obtain ⟨rfl, rfl⟩ := h
  exact ⟨rfl, rfl, _, _, rfl, .inl rfl⟩
theorem Sub.aggV {xs : List Value} (h : xs.all (·.oneCell') = true) : Sub (.v (.agg xs.toArray)) (.agg (xs.map D.v)) := fun w S β y F hr => by
  unfold Rep at hr ⊢
  obtain ⟨rfl, rfl⟩ := hr
  exact ⟨xs, rfl, RepL_vals xs fun y hy => List.all_eq_true.1 h y hy⟩

theorem imp_conv {k : Nat} {d d' : D} (hk : look st k = some (.d d)) (h : Sub d d') : Imp np st ((k, .d d') :: st) := fun Γ _ a w hs => by
  obtain ⟨S, β, Fs, hi⟩ := hs
  have hodd : ∀ r x, look ((k, Ent.d d') :: st) (2 * r + 1) = some (.r x) → look st (2 * r + 1) = some (.r x) := fun r x hx => by
    have hx' : (if 2 * r + 1 = k then some (Ent.d d') else look st (2 * r + 1)) = some (.r x) := hx
    split at hx'
    · cases hx'
    · exact hx'
  refine ⟨S, β, fun r => if 2 * r + 1 = k then [] else Fs r, { hi with slots := ?_, roots := ?_, noroot := ?_, nodup := ?_, disj := ?_, own := ?_ }⟩
  · intro t e he
    have he' : (if 2 * t = k then some (Ent.d d') else look st (2 * t)) = some (.d e) := he
    split at he'
    · rename_i e1; cases he'; rw [← e1] at hk; exact h _ _ _ _ _ (hi.slots t _ hk)
    · exact hi.slots t _ he'
  · intro r x hx
    have hx1 := hodd r x hx
    have hne : ¬ (2 * r + 1 = k) := fun e => by rw [e, hk] at hx1; cases hx1
    simp only [if_neg hne]
    exact hi.roots r x hx1
  · intro r hr
    by_cases hne : 2 * r + 1 = k
    · simp only [if_pos hne]
    · simp only [if_neg hne]
      exact hi.noroot r fun x hx => hr x (by show (if 2 * r + 1 = k then some (Ent.d d') else look st (2 * r + 1)) = some (.r x); rw [if_neg hne]; exact hx)
  · intro r; split
    · exact List.nodup_nil
    · exact hi.nodup r
  · intro r r' hne b hb hb'
    split at hb
    · cases hb
    · split at hb'
      · cases hb'
      · exact hi.disj r r' hne b hb hb'
  · intro r b hb
    split at hb
    · cases hb
    · exact hi.own r b hb

/-- The cells of a root known otherwise. -/
theorem imp_convR {r sz : Nat} {cells cells' : List D} {refs refs' : List Nat} (hk : look st (2 * r + 1) = some (.r (.arr sz cells refs))) (h : SubL cells cells') (hl : cells = [] → cells' = [])
    (hsub : ∀ m ∈ menL cells', refs.contains m = true ∧ refs'.contains m = true) : Imp np st ((2 * r + 1, .r (.arr sz cells' refs')) :: st) := fun Γ _ a w hs => by
  obtain ⟨S, β, Fs, hi⟩ := hs
  refine ⟨S, β, Fs, { hi with slots := ?_, roots := ?_, noroot := ?_ }⟩
  · intro t e he
    have he' : (if 2 * t = 2 * r + 1 then some (Ent.r _) else look st (2 * t)) = some (.d e) := he
    rw [if_neg (by omega)] at he'
    exact hi.slots t e he'
  · intro q x hx
    have hx' : (if 2 * q + 1 = 2 * r + 1 then some (Ent.r (.arr sz cells' refs')) else look st (2 * q + 1)) = some (.r x) := hx
    by_cases e : q = r
    · subst e
      rw [if_pos rfl] at hx'; cases hx'
      have h1 := hi.roots q _ hk
      cases eb : β q with
      | none => rw [eb] at h1; exact h1.ne.elim
      | nil => rw [eb] at h1; exact ⟨hl h1.1, h1.2⟩
      | blk b o sz' m =>
        rw [eb] at h1
        obtain ⟨e, pre, ys, rest, E, F', k1, k2, k3, k4, k5, k6⟩ := h1
        refine ⟨e, pre, ys, rest, E, F', k1, k2, k3, k4, ?_, fun m hm => (hsub m hm).2⟩
        refine RepL.beta _ _ _ (fun m hm => ?_) (h _ _ _ _ _ k5)
        unfold Beta.res
        rw [if_pos (hsub m hm).1, if_pos (hsub m hm).2]
    · rw [if_neg (by omega)] at hx'
      exact hi.roots q x hx'
  · intro q hq
    by_cases e : q = r
    · subst e
      exact absurd (show look ((2 * q + 1, Ent.r (.arr sz cells' refs')) :: st) (2 * q + 1) = some (.r (.arr sz cells' refs')) by simp [look]) (hq _)
    · exact hi.noroot q fun x hx => hq x (by
        show (if 2 * q + 1 = 2 * r + 1 then some (Ent.r (.arr sz cells' refs')) else look st (2 * q + 1)) = some (.r x)
        rw [if_neg (by omega)]; exact hx)

/-! ### an owned part becomes a root, and back -/
theorem menL_set_sub {ds : List D} {i : Nat} {d : D} : ∀ m ∈ menL (ds.set i d), m ∈ menL ds ∨ m ∈ d.men := by
  intro m hm
  induction ds generalizing i with
  | nil => simp [menL] at hm
  | cons d' ds ih =>
    cases i with
    | zero =>
      simp only [List.set_cons_zero, menL, List.mem_append] at hm ⊢
      rcases hm with h | h
      · exact .inr h
      · exact .inl (.inr h)
    | succ i =>
      simp only [List.set_cons_succ, menL, List.mem_append] at hm ⊢
      rcases hm with h | h
      · exact .inl (.inl h)
      · rcases ih h with h | h
        · exact .inl (.inr h)
        · exact .inr h

theorem imp_promote {r i q sz sz' n : Nat} {cells ds : List D} {refs : List Nat} (hr : look st (2 * r + 1) = some (.r (.arr sz cells refs))) (hc : cells[i]? = some (.fr sz' n ds)) (hf : freshB np st q = true) :
    Imp np st ((2 * q + 1, .r (.arr sz' ds [])) :: (2 * r + 1, .r (.arr sz (cells.set i (.rs q 0 n)) (q :: refs))) :: st) := fun Γ hnp a w hs => by
  obtain ⟨S, β, Fs, hi⟩ := hs
  obtain ⟨hnq, hfq⟩ := freshB_spec hf
  have hqr : q ≠ r := fun e => (hfq _ _ hr).1 (by rw [e])
  have hroot := hi.roots r _ hr
  have hil : i < cells.length := (List.getElem?_eq_some_iff.1 hc).1
  have hfr := (hfq _ _ hr).2
  simp only [Ent.names] at hfr
  -- the block of r
  cases eb : β r with
  | none => rw [eb] at hroot; exact hroot.ne.elim
  | nil => rw [eb] at hroot; rw [hroot.1] at hil; simp at hil
  | blk b o szb m =>
    rw [eb] at hroot
    obtain ⟨rfl, pre, ys, rest, E, F', h1, h2, h3, hF, h5, h6⟩ := hroot
    obtain ⟨ya, y, yb, Fa, Fd, Fb, rfl, hya, rfl, h0, hd, ha, hb⟩ := RepL_mid h5 hc
    have hnd := hi.nodup r
    rw [hF] at hnd
    have hsub : ∀ c ∈ Fd, c ∈ Fs r := fun c hc => by rw [hF]; simp [hc]
    have hndd : Fd.Nodup := by
      have := (List.nodup_cons.1 hnd).2
      exact (List.nodup_append.1 (List.nodup_append.1 this).1).2.1
    have hcut : ∀ c ∈ Fd, c ∉ b :: (Fa ++ Fb) := fun c hc hc' => by
      simp only [List.nodup_cons, List.mem_append, List.nodup_append] at hnd
      obtain ⟨n1, ⟨⟨n2, n3, n4⟩, n5, n6⟩⟩ := hnd
      rcases List.mem_cons.1 hc' with rfl | hc'
      · exact n1 (.inl (.inr hc))
      · rcases List.mem_append.1 hc' with h | h
        · exact n4 c h c hc rfl
        · exact n6 c (.inr hc) c h rfl
    obtain ⟨rbq, hxq, hyq⟩ : ∃ rbq, RootRep w S (setB β q rbq) (.arr sz' ds []) rbq Fd ∧ Rep w S (.rs q 0 n) (setB β q rbq) y [] := by
      unfold Rep at hd
      obtain ⟨aa, cap, rfl, hl, hmn, hd⟩ := hd
      rcases hd with ⟨rfl, rfl, rfl, rfl⟩ | ⟨b2, o2, pre2, ys2, rest2, E2, F2, rfl, k1, k2, k3, k4, rfl, k5⟩
      · have : ds = [] := List.eq_nil_of_length_eq_zero (by simpa using hl)
        subst this
        refine ⟨.nil, ⟨rfl, rfl⟩, ?_⟩
        unfold Rep; simp [setB]
      · refine ⟨.blk b2 o2 sz' (pre2 ++ ys2 ++ rest2).length, ⟨rfl, pre2, ys2, rest2, E2, F2, k3, rfl, k4, rfl, by rw [← noB_res]; exact k5, by rw [hmn]; simp⟩, ?_⟩
        unfold Rep
        refine ⟨rfl, ?_⟩
        simp only [setB, if_true]
        exact ⟨cap, by simp, k1, by simpa using k2⟩
    have hbq : ∀ p, p ≠ q → setB β q rbq p = β p := fun p hp => by unfold setB; rw [if_neg hp]
    have hres : ∀ m, refs.contains m = true → ((setB β q rbq).res (q :: refs)) m = (β.res refs) m := fun m hm => by
      have hmq : m ≠ q := fun e => by rw [e, hfr] at hm; cases hm
      unfold Beta.res
      rw [if_pos hm, if_pos (by simp at hm ⊢; exact .inr hm), hbq m hmq]
    refine ⟨S, setB β q rbq, fun p => if p = q then Fd else if p = r then b :: (Fa ++ Fb) else Fs p, {
      defers := hi.defers, size := hi.size, slots := ?_, roots := ?_, noroot := ?_, nodup := ?_, disj := ?_, own := ?_, s0 := hi.s0, sOk := hi.sOk, ext := hi.ext, fix := ?_ }⟩
    · intro t e he
      have he' : (if 2 * t = 2 * q + 1 then some (Ent.r _) else if 2 * t = 2 * r + 1 then some (Ent.r _) else look st (2 * t)) = some (.d e) := he
      rw [if_neg (by omega), if_neg (by omega)] at he'
      exact (hi.slots t e he').setB (by simpa [Ent.names] using (hfq _ _ he').2)
    · intro p x hx
      have hx' : (if 2 * p + 1 = 2 * q + 1 then some (Ent.r (.arr sz' ds [])) else if 2 * p + 1 = 2 * r + 1 then some (Ent.r (.arr szb (cells.set i (.rs q 0 n)) (q :: refs))) else look st (2 * p + 1)) = some (.r x) := hx
      by_cases e : p = q
      · subst e
        rw [if_pos rfl] at hx'; cases hx'
        simp only [if_true]
        have : setB β p rbq p = rbq := by simp [setB]
        rw [this]; exact hxq
      · rw [if_neg (by omega)] at hx'
        simp only [if_neg e]
        by_cases e' : p = r
        · subst e'
          rw [if_pos rfl] at hx'; cases hx'
          simp only [if_true]
          rw [hbq p e, eb]
          refine ⟨rfl, pre, _, rest, E, Fa ++ Fb, h1, h2, h3, rfl, ?_, ?_⟩
          · have ha' : RepL w S (cells.take i) ((setB β q rbq).res (q :: refs)) ya Fa := RepL.beta _ _ _ (fun m hm => hres m (h6 m (menL_take_sub _ _ m hm))) ha
            have hb' : RepL w S (cells.drop (i + 1)) ((setB β q rbq).res (q :: refs)) yb Fb := RepL.beta _ _ _ (fun m hm => hres m (h6 m (menL_drop_sub _ _ m hm))) hb
            have hy' : Rep w S (.rs q 0 n) ((setB β q rbq).res (q :: refs)) y [] := Rep.beta _ _ _ (fun m hm => by simp [D.men] at hm; subst hm; unfold Beta.res; rw [if_pos (by simp)]) hyq
            have := RepL_put hil ha' h0 hy' hb'
            simpa using this
          · intro m hm
            rcases menL_set_sub m hm with h | h
            · have := h6 m h; simp at this ⊢; exact .inr this
            · simp [D.men] at h; subst h; simp
        · rw [if_neg (by omega)] at hx'
          simp only [if_neg e']
          rw [hbq p e]
          exact (hi.roots p x hx').setB (hfq _ _ hx').2
    · intro p hp
      by_cases e : p = q
      · subst e; exact absurd (by simp [look]) (hp (.arr sz' ds []))
      · by_cases e' : p = r
        · subst e'
          exact absurd (by show (if 2 * p + 1 = 2 * q + 1 then _ else if 2 * p + 1 = 2 * p + 1 then some (Ent.r (.arr szb (cells.set i (.rs q 0 n)) (q :: refs))) else look st (2 * p + 1)) = _; rw [if_neg (by omega), if_pos rfl]) (hp (.arr szb (cells.set i (.rs q 0 n)) (q :: refs)))
        · simp only [if_neg e, if_neg e']
          exact hi.noroot p fun x hx => hp x (by
            show (if 2 * p + 1 = 2 * q + 1 then _ else if 2 * p + 1 = 2 * r + 1 then _ else look st (2 * p + 1)) = _
            rw [if_neg (by omega), if_neg (by omega)]; exact hx)
    · intro p
      split
      · exact hndd
      · split
        · refine List.Nodup.sublist ?_ hnd
          exact List.Sublist.cons_cons b (by rw [List.append_assoc]; exact List.Sublist.append (List.Sublist.refl _) (List.sublist_append_right _ _))
        · exact hi.nodup p
    · have hR : ∀ c ∈ b :: (Fa ++ Fb), c ∈ Fs r := fun c hc => by rw [hF]; simp at hc ⊢; rcases hc with h | h | h <;> simp [h]
      intro p p' hne c hc hc'
      by_cases e : p = q
      · simp only [if_pos e] at hc
        have e' : p' ≠ q := fun h => hne (e.trans h.symm)
        simp only [if_neg e'] at hc'
        by_cases e2 : p' = r
        · simp only [if_pos e2] at hc'
          exact hcut c hc hc'
        · simp only [if_neg e2] at hc'
          exact hi.disj r p' (Ne.symm e2) c (hsub c hc) hc'
      · simp only [if_neg e] at hc
        by_cases e1 : p = r
        · simp only [if_pos e1] at hc
          by_cases e' : p' = q
          · simp only [if_pos e'] at hc'
            exact hcut c hc' hc
          · simp only [if_neg e'] at hc'
            have e2 : p' ≠ r := fun h => hne (e1.trans h.symm)
            simp only [if_neg e2] at hc'
            exact hi.disj r p' (Ne.symm e2) c (hR c hc) hc'
        · simp only [if_neg e1] at hc
          by_cases e' : p' = q
          · simp only [if_pos e'] at hc'
            exact hi.disj p r e1 c hc (hsub c hc')
          · simp only [if_neg e'] at hc'
            by_cases e2 : p' = r
            · simp only [if_pos e2] at hc'
              exact hi.disj p r e1 c hc (hR c hc')
            · simp only [if_neg e2] at hc'
              exact hi.disj p p' hne c hc hc'
    · intro p c hc
      by_cases e : p = q
      · simp only [if_pos e] at hc; exact hi.own r c (hsub c hc)
      · simp only [if_neg e] at hc
        by_cases e' : p = r
        · simp only [if_pos e'] at hc
          exact hi.own r c (by rw [hF]; simp at hc ⊢; rcases hc with h | h | h <;> simp [h])
        · simp only [if_neg e'] at hc; exact hi.own p c hc
    · intro p hp
      rw [hbq p (by omega)]
      exact hi.fix p hp
end
end Go.Gx
