/- Contracts of functions; the rule for a function's body. -/
import Derived.Test.YtggojehmbpbefaaGxL
namespace Go.Gx

structure Roots (g : X) (w : World) (S : Nat → Prop) (β : Beta) (Fs : Nat → List Nat) : Prop where
  roots : ∀ r x, g (2 * r + 1) = some (.r x) → RootRep w S β x (β r) (Fs r)
  noroot : ∀ r, (∀ x, g (2 * r + 1) ≠ some (.r x)) → Fs r = []
  nodup : ∀ r, (Fs r).Nodup
  disj : ∀ r r', r ≠ r' → ∀ b ∈ Fs r, b ∉ Fs r'
  own : ∀ r, ∀ b ∈ Fs r, ¬ S b ∧ b < w.heap.size
  sOk : ∀ b, S b → b < w.heap.size

def rootSt (l : List (Nat × Root)) : St := l.map fun p => (2 * p.1 + 1, .r p.2)
def owned (Fs : Nat → List Nat) : Nat → Prop := fun b => ∃ r, b ∈ Fs r

/-- CONTRACT: called with values that stand for 'args' (which may name the roots 'rin'), function f returns a value that stands for 'res'; the roots then are 'rout'; nothing else of what was there has turned. -/
def FnC (P : Program) (f : FuncId) (rin : List (Nat × Root)) (args : List D) (rout : List (Nat × Root)) (res : D) : Prop :=
  ∀ w S β Fs vs, Roots (look (rootSt rin)) w S β Fs → RepT w S args β vs [] →
    Calls P f vs.toArray w fun e w' => ∃ y S' Fs' F, e = .returned y ∧ Ext w w' (owned Fs) ∧ (∀ b, S b → S' b) ∧ (∀ b, S' b → b < w'.heap.size ∧ (S b ∨ owned Fs b ∨ w.heap.size ≤ b)) ∧
      Roots (look (rootSt rout)) w' S' β Fs' ∧ (∀ r b, b ∈ Fs' r → owned Fs b ∨ w.heap.size ≤ b) ∧
      Rep w' S' res β y F ∧ F.Nodup ∧ ∀ b ∈ F, ¬ S' b ∧ b < w'.heap.size ∧ (owned Fs b ∨ w.heap.size ≤ b) ∧ ∀ r, b ∉ Fs' r

theorem RepT_length {w : World} {S : Nat → Prop} : ∀ {ds : List D} {β : Beta} {ys : List Value} {F : List Nat}, RepT w S ds β ys F → ys.length = ds.length
  | [], _, ys, _, h => by unfold RepT at h; simp [h.1]
  | d :: ds, β, ys, F, h => by
    unfold RepT at h
    obtain ⟨y, ys', F1, F2, rfl, rfl, _, h2⟩ := h
    simp [RepT_length h2]

/-! ### what is returned: references to owned roots become owned parts -/
def own1 (st : St) : D → D × List Nat
  | .rs r off n => match look st (2 * r + 1) with
    | some (.r (.arr sz cells [])) => if off = 0 then (.fr sz n cells, [r]) else (.any, [])
    | _ => (.any, [])
  | .rp _ _ => (.any, [])
  | .rm _ => (.any, [])
  | d => (d, [])

def ownL (st : St) : List D → List D × List Nat
  | [] => ([], [])
  | d :: ds => ((own1 st d).1 :: (ownL st ds).1, (own1 st d).2 ++ (ownL st ds).2)

/-- The side conditions that a kernel cannot reckon: whole roots. -/
def own1P (st : St) : D → Prop
  | .rs r off n => match look st (2 * r + 1) with
    | some (.r (.arr sz cells [])) => if off = 0 then cells.length = n * sz else True
    | _ => True
  | _ => True
def ownLP (st : St) : List D → Prop
  | [] => True
  | d :: ds => own1P st d ∧ ownLP st ds

section
variable {Γ : Ctx} {g : X} {a : Act} {w : World} {S : Nat → Prop} {β : Beta} {Fs : Nat → List Nat} {st : St}

def needsL (g : X) (st : St) (l : List Nat) : Prop := ∀ r ∈ l, ∀ x, look st (2 * r + 1) = some (.r x) → g (2 * r + 1) = some (.r x)

theorem own1_rs {st : St} {r off n : Nat} : (∃ sz cells, look st (2 * r + 1) = some (.r (.arr sz cells [])) ∧ off = 0 ∧ own1 st (.rs r off n) = (.fr sz n cells, [r])) ∨ own1 st (.rs r off n) = (.any, []) := by
  simp only [own1]
  split
  · rename_i sz cells hl
    split
    · rename_i h; exact .inl ⟨sz, cells, hl, h, rfl⟩
    · exact .inr rfl
  · exact .inr rfl

theorem own1_rep (hi : Inv Γ (look st) a w S β Fs) {d : D} {y : Value} {F : List Nat} {refs : List Nat} (hp : own1P st d) (h : Rep w S d (β.res refs) y F) (hsub : subRefs d.men refs = true) :
    ∃ F', Rep w S (own1 st d).1 β y F' ∧ F'.Perm (F ++ (own1 st d).2.flatMap Fs) := by
  have same : (own1 st d).1 = d → (own1 st d).2 = [] → ∃ F', Rep w S (own1 st d).1 β y F' ∧ F'.Perm (F ++ (own1 st d).2.flatMap Fs) := by
    intro e1 e2
    rw [e1, e2]
    exact ⟨F, h.unres hsub, by simp⟩
  have anyc : (own1 st d).1 = .any → (own1 st d).2 = [] → F = [] → ∃ F', Rep w S (own1 st d).1 β y F' ∧ F'.Perm (F ++ (own1 st d).2.flatMap Fs) := by
    intro e1 e2 e3
    rw [e1, e2, e3]
    exact ⟨[], by unfold Rep; rfl, by simp⟩
  cases d with
  | rs r off n =>
    have hF : F = [] := by unfold Rep at h; exact h.1
    rcases own1_rs (st := st) (r := r) (off := off) (n := n) with ⟨sz, cells, hl, rfl, e⟩ | e
    · have hlen : cells.length = n * sz := by simpa [own1P, hl] using hp
      rw [e]
      have hr := hi.roots r _ hl
      have h' := h.unres hsub
      unfold Rep at h'
      subst hF
      cases eb : β r with
      | none => rw [eb] at hr; exact hr.ne.elim
      | nil =>
        rw [eb] at h' hr
        obtain ⟨_, rfl, _, rfl⟩ := h'
        obtain ⟨rfl, hF0⟩ := hr
        exact ⟨[], by unfold Rep; exact ⟨_, _, rfl, by simp, by simp [menL], .inl ⟨rfl, rfl, rfl, rfl⟩⟩, by simp [hF0]⟩
      | blk b o' sz2 m2 =>
        rw [eb] at h' hr
        obtain ⟨_, cap, rfl, k1, k2⟩ := h'
        obtain ⟨rfl, pre, ys, rest, E, F', h1, h2, h3, hF', h5, h6⟩ := hr
        refine ⟨b :: F', ?_, by simp [hF']⟩
        unfold Rep
        refine ⟨_, _, rfl, hlen, ?_, .inr ⟨b, o', pre, ys, rest, E, F', by simp, k1, by rw [← h2]; simpa using k2, h1, h3, rfl, ?_⟩⟩
        · cases hm : menL cells with
          | nil => rfl
          | cons m l => have := h6 m (by rw [hm]; simp); simp at this
        · rw [noB_res (β := β)]; exact h5
    · rw [e, hF]
      exact ⟨[], by unfold Rep; rfl, by simp⟩
  | rp r off => exact anyc rfl rfl (by unfold Rep at h; exact h.1)
  | rm r => exact anyc rfl rfl (by unfold Rep at h; exact h.1)
  | any => exact same rfl rfl
  | v x => exact same rfl rfl
  | agg ds => exact same rfl rfl
  | tup ds => exact same rfl rfl
  | sl n off ds => exact same rfl rfl
  | pt ds off => exact same rfl rfl
  | fr sz n ds => exact same rfl rfl
  | fn f caps => exact same rfl rfl
  | ifc t d => exact same rfl rfl
  | bm es => exact same rfl rfl
  | fb f caps => exact same rfl rfl

theorem ownL_rep (hi : Inv Γ (look st) a w S β Fs) {refs : List Nat} : ∀ {ds : List D} {ys : List Value} {F : List Nat}, ownLP st ds → RepL w S ds (β.res refs) ys F → subRefs (menL ds) refs = true →
    ∃ F', RepL w S (ownL st ds).1 β ys F' ∧ F'.Perm (F ++ (ownL st ds).2.flatMap Fs)
  | [], ys, F, _, h, _ => by
    unfold RepL at h
    obtain ⟨rfl, rfl⟩ := h
    exact ⟨[], RepL_nil, by simp [ownL]⟩
  | d :: ds, ys, F, hp, h, hs => by
    unfold RepL at h
    obtain ⟨y, ys', F1, F2, rfl, rfl, h0, h1, h2⟩ := h
    have hs1 : subRefs d.men refs = true := List.all_eq_true.2 fun m hm => List.all_eq_true.1 hs m (by simp [menL, hm])
    have hs2 : subRefs (menL ds) refs = true := List.all_eq_true.2 fun m hm => List.all_eq_true.1 hs m (by simp [menL, hm])
    obtain ⟨Fa, a1, a2⟩ := own1_rep hi hp.1 h1 hs1
    obtain ⟨Fb, b1, b2⟩ := ownL_rep hi hp.2 h2 hs2
    refine ⟨Fa ++ Fb, RepL_cons h0 a1 b1, ?_⟩
    simp only [ownL, List.flatMap_append]
    refine (a2.append b2).trans ?_
    simp only [List.append_assoc]
    refine List.Perm.append_left F1 ?_
    rw [← List.append_assoc, ← List.append_assoc]
    exact List.Perm.append_right _ List.perm_append_comm
end

/-- One result. -/
def outD (st : St) : ResultVar → Option (D × List Nat)
  | .tmp t => match look st (2 * t) with
    | some (.d (.agg ds)) => some (.agg (ownL st ds).1, (ownL st ds).2)
    | some (.d d) => some (own1 st d)
    | _ => none
  | .cell t _ => match look st (2 * t) with
    | some (.d (.rp r 0)) => match look st (2 * r + 1) with
      | some (.r (.arr _ cells _)) => some (.agg (ownL st cells).1, r :: (ownL st cells).2)
      | _ => none
    | _ => none

def outP (T : Tab) (st : St) : ResultVar → Prop
  | .tmp t => match look st (2 * t) with
    | some (.d (.agg ds)) => ownLP st ds
    | some (.d d) => own1P st d
    | _ => True
  | .cell t s => match look st (2 * t) with
    | some (.d (.rp r 0)) => match look st (2 * r + 1) with
      | some (.r (.arr _ cells refs)) => ownLP st cells ∧ subRefs (menL cells) refs = true ∧ (∃ i, T.get s = some i ∧ isAggD i.desc = true ∧ cells.length = i.size)
      | _ => True
    | _ => True

def outs (st : St) : List ResultVar → Option (List D × List Nat)
  | [] => some ([], [])
  | v :: l => match outD st v, outs st l with
    | some (d, r), some (ds, rs) => some (d :: ds, r ++ rs)
    | _, _ => none

def outsP (T : Tab) (st : St) : List ResultVar → Prop
  | [] => True
  | v :: l => outP T st v ∧ outsP T st l

def resD : List D → D
  | [d] => d
  | ds => .tup ds

section
variable {P : Program} {T : Tab} {Γ : Ctx} {a : Act} {w : World} {S : Nat → Prop} {β : Beta} {Fs : Nat → List Nat} {st : St}

def resGet (a : Act) : ResultVar → Sem Value
  | .tmp t => pure (a.tmps.getD t undef)
  | .cell b t => do loadVar t (← asAddr (a.tmps.getD b undef))

def resVal (w : World) (P : Program) (a : Act) (v : ResultVar) (y : Value) : Prop := (resGet a v).run P w = .ok y w

theorem RepL.len_F {ds : List D} {ys : List Value} {F : List Nat} (h : RepL w S ds β ys F) : ys.length = ds.length := RepL_length h

theorem outD_rep (hT : TabOk P T) (hi : Inv Γ (look st) a w S β Fs) {v : ResultVar} {d : D} {l : List Nat} (h : outD st v = some (d, l)) (hp : outP T st v) :
    ∃ y F', resVal w P a v y ∧ Rep w S d β y F' ∧ ∃ G, (F' ++ G).Perm (l.flatMap Fs) := by
  cases v with
  | tmp t =>
    simp only [outD] at h
    simp only [outP] at hp
    cases hl : look st (2 * t) with
    | none => rw [hl] at h; cases h
    | some e =>
      cases e with
      | r x => rw [hl] at h; cases h
      | d dd =>
        have hs := hi.slots t dd hl
        by_cases hag : ∃ ds, dd = .agg ds
        · obtain ⟨ds, rfl⟩ := hag
          simp only [hl] at h hp
          cases h
          unfold Rep at hs
          obtain ⟨ys, e, hs⟩ := hs
          obtain ⟨F', h1, h2⟩ := ownL_rep hi (refs := menL ds) hp (hs.toRes (List.all_eq_true.2 fun m hm => List.contains_iff_mem.2 hm)) (List.all_eq_true.2 fun m hm => List.contains_iff_mem.2 hm)
          exact ⟨a.tmps.getD t undef, F', by simp [resVal, resGet], by unfold Rep; exact ⟨ys, e, h1⟩, [], by simpa using h2⟩
        · have e1 : (match some (Ent.d dd) with | some (.d (.agg ds)) => some (D.agg (ownL st ds).1, (ownL st ds).2) | some (.d d) => some (own1 st d) | _ => none) = some (own1 st dd) := by
            cases dd <;> first | rfl | (exact absurd ⟨_, rfl⟩ hag)
          have e2 : own1P st dd := by
            simp only [hl] at hp
            cases dd <;> first | exact hp | (exact absurd ⟨_, rfl⟩ hag)
          simp only [hl] at h
          rw [e1] at h
          simp only [Option.some.injEq] at h
          obtain ⟨F', h1, h2⟩ := own1_rep hi (refs := dd.men) e2 (hs.toRes (List.all_eq_true.2 fun m hm => List.contains_iff_mem.2 hm)) (List.all_eq_true.2 fun m hm => List.contains_iff_mem.2 hm)
          rw [h] at h1 h2
          exact ⟨a.tmps.getD t undef, F', by simp [resVal, resGet], h1, [], by simpa using h2⟩
  | cell t s =>
    simp only [outD] at h
    simp only [outP] at hp
    cases hl : look st (2 * t) with
    | none => simp only [hl] at h; cases h
    | some e =>
      simp only [hl] at h hp
      split at h
      · rename_i r heq
        cases heq
        split at h
        · rename_i sz cells refs hl2
          cases h
          simp only [hl2] at hp
          obtain ⟨hp1, hp2, i, hi1, hi2, hi3⟩ := hp
          have hs := hi.slots t _ hl
          have hr := hi.roots r _ hl2
          unfold Rep at hs
          cases eb : β r with
          | none => rw [eb] at hr; exact hr.ne.elim
          | nil => rw [eb] at hs; exact hs.2.elim
          | blk b o' sz2 m2 =>
            rw [eb] at hs hr
            obtain ⟨rfl, pre, ys, rest, E, F', h1, h2, h3, hF', h5, h6⟩ := hr
            obtain ⟨F2, k1, k2⟩ := ownL_rep hi (refs := refs) hp1 h5 hp2
            have hly := RepL_length h5
            have hseg : Seg w b o' ys := ⟨pre, rest, E, _, h1, h3⟩
            refine ⟨.agg ys.toArray, F2, ?_, by unfold Rep; exact ⟨ys, rfl, k1⟩, [b], ?_⟩
            · simp only [resVal, resGet]
              have hcells := run_loadCells_list (P := P) w ⟨b, o', .none⟩ ys (fun j u hj => by rw [add_lit]; exact hseg.cell hj)
              rw [hly, hi3] at hcells
              have hsa := hs.2
              simp only [Nat.add_zero] at hsa
              rw [hsa]
              simp only [asAddr, Sem.run_bind, Sem.run_pure, Result.andThen_ok, loadVar, isAgg_run hT hi1, hi2, if_true, (hT.get hi1).size, hcells]
            · simp only [List.flatMap_cons, hF']
              refine (List.Perm.append_right _ k2).trans ?_
              simp only [List.cons_append]
              exact (List.perm_append_comm (l₁ := F' ++ List.flatMap Fs (ownL st cells).snd) (l₂ := [b]))
        · cases h
      · cases h

theorem outs_rep (hT : TabOk P T) (hi : Inv Γ (look st) a w S β Fs) : ∀ {vl : List ResultVar} {ds : List D} {l : List Nat}, outs st vl = some (ds, l) → outsP T st vl →
    ∃ (ys : List Value) (F' : List Nat), (vl.mapM (resGet a)).run P w = .ok ys w ∧ RepT w S ds β ys F' ∧ ys.length = ds.length ∧ ∃ G, (F' ++ G).Perm (l.flatMap Fs)
  | [], ds, l, h, _ => by
    simp only [outs, Option.some.injEq, Prod.mk.injEq] at h
    obtain ⟨rfl, rfl⟩ := h
    exact ⟨[], [], by simp, by unfold RepT; exact ⟨rfl, rfl⟩, rfl, [], by simp⟩
  | v :: vl, ds, l, h, hp => by
    unfold outs at h
    cases h1 : outD st v with
    | none => rw [h1] at h; cases h
    | some p =>
      obtain ⟨d, r⟩ := p
      cases h2 : outs st vl with
      | none => rw [h1, h2] at h; cases h
      | some q =>
        obtain ⟨ds', rs⟩ := q
        rw [h1, h2] at h
        simp only [Option.some.injEq, Prod.mk.injEq] at h
        obtain ⟨rfl, rfl⟩ := h
        obtain ⟨y, Fa, a1, a2, Ga, a3⟩ := outD_rep hT hi h1 hp.1
        obtain ⟨ys, Fb, b1, b2, b3, Gb, b4⟩ := outs_rep hT hi h2 hp.2
        refine ⟨y :: ys, Fa ++ Fb, ?_, by unfold RepT; exact ⟨y, ys, Fa, Fb, rfl, rfl, a2, b2⟩, by simp [b3], Ga ++ Gb, ?_⟩
        · rw [List.mapM_cons]
          unfold resVal at a1
          simp only [Sem.run_bind, a1, Result.andThen_ok, b1, Sem.run_pure]
        · simp only [List.flatMap_append]
          refine List.Perm.trans ?_ (a3.append b4)
          simp only [List.append_assoc]
          refine List.Perm.append_left Fa ?_
          rw [← List.append_assoc, ← List.append_assoc]
          exact List.Perm.append_right _ List.perm_append_comm

theorem results_run (hT : TabOk P T) (hi : Inv Γ (look st) a w S β Fs) {fn : Func} {ds : List D} {l : List Nat} (h : outs st fn.results.toList = some (ds, l)) (hp : outsP T st fn.results.toList) :
    ∃ y F', (results fn a.tmps).run P w = .ok y w ∧ Rep w S (resD ds) β y F' ∧ ∃ G, (F' ++ G).Perm (l.flatMap Fs) := by
  obtain ⟨ys, F', h1, h2, h3, G, h4⟩ := outs_rep hT hi h hp
  refine ⟨if h : ys.toArray.size = 1 then ys.toArray[0] else .tuple ys.toArray, F', ?_, ?_, G, h4⟩
  · have e : results fn a.tmps = (do let vs ← fn.results.mapM (resGet a); pure (if h : vs.size = 1 then vs[0] else .tuple vs)) := by
      unfold results resGet
      rfl
    rw [e, Array.mapM_eq_mapM_toList]
    simp only [Sem.run_bind, Sem.run_map, h1, Result.andThen_ok, Sem.run_pure]
  · match ds, ys, h3, h2 with
    | [], [], _, h2 => simp [resD, Rep, h2]
    | [d], [y], _, h2 =>
      unfold RepT at h2
      obtain ⟨y', ys', F1, F2, e1, rfl, h5, h6⟩ := h2
      unfold RepT at h6
      obtain ⟨rfl, rfl⟩ := h6
      simp at e1; subst e1
      simpa [resD] using h5
    | d1 :: d2 :: ds, y1 :: y2 :: ys, _, h2 => simp [resD, Rep, h2]
end
end Go.Gx
