/- Lending: owned roots are read as borrowed, for one call or for good. -/
import Derived.Test.YtggojehmbpbefaaGxU
namespace Go.Gx

def lent (Fs : Nat → List Nat) (B : List Nat) : Nat → Prop := fun b => ∃ r ∈ B, b ∈ Fs r
def SB (S : Nat → Prop) (Fs : Nat → List Nat) (B : List Nat) : Nat → Prop := fun b => S b ∨ lent Fs B b

/-- A cell of a lent root, as borrowed. -/
def Bor1 (st : St) (B : List Nat) (d d' : D) : Prop := d'.men = [] ∧ ∀ Γ g a w S β Fs, Inv Γ g a w S β Fs → Needs g (needRoots st B) → ∀ y F, Rep w S d β y F → (∀ b ∈ F, lent Fs B b) → Rep w (SB S Fs B) d' noB y []
def BorC (st : St) (B : List Nat) (ds ds' : List D) : Prop := menL ds' = [] ∧ ds'.length = ds.length ∧ ∀ Γ g a w S β Fs, Inv Γ g a w S β Fs → Needs g (needRoots st B) → ∀ ys F, RepL w S ds β ys F → (∀ b ∈ F, lent Fs B b) → RepL w (SB S Fs B) ds' noB ys []
/-- A value, as the reader may know it. -/
def Bor (st : St) (B : List Nat) (ρ : Nat → Nat) (d d' : D) : Prop := ∀ Γ g a w S β Fs, Inv Γ g a w S β Fs → Needs g (needRoots st B) → ∀ y, Rep w S d β y [] → Rep w (SB S Fs B) d' (fun i => β (ρ i)) y []
def BorL (st : St) (B : List Nat) (ρ : Nat → Nat) (ds ds' : List D) : Prop := ∀ Γ g a w S β Fs, Inv Γ g a w S β Fs → Needs g (needRoots st B) → ∀ ys, RepT w S ds β ys [] → RepT w (SB S Fs B) ds' (fun i => β (ρ i)) ys []

section
variable {st : St} {B : List Nat} {ρ : Nat → Nat}

theorem inSB {S : Nat → Prop} {Fs : Nat → List Nat} : ∀ b, S b → SB S Fs B b := fun _ h => .inl h

theorem Rep.inS {w : World} {S : Nat → Prop} {β : Beta} {Fs : Nat → List Nat} {d : D} {y : Value} {F : List Nat} (h : Rep w S d β y F) : Rep w (SB S Fs B) d β y F :=
  Rep.mono (fun _ _ => rfl) inSB d β y F (fun _ _ => rfl) h

theorem Bor1.same {d : D} (hm : d.men = []) (hf : d.noFr = true) : Bor1 st B d d := ⟨hm, fun Γ g a w S β Fs hi hn y F h _ => by
  have e := Rep.noF hf h
  subst e
  exact (Rep.beta d y [] (by rw [hm]; simp) h).inS⟩
theorem Bor1.v {x : Value} : Bor1 st B (.v x) (.v x) := .same rfl rfl
theorem Bor1.nil : Bor1 st B (.v (.slice .none 0 0)) (.sl 0 0 []) := ⟨rfl, fun Γ g a w S β Fs hi hn y F h _ => by
  unfold Rep at h ⊢
  obtain ⟨rfl, rfl⟩ := h
  exact ⟨rfl, rfl, _, _, rfl, .inl rfl⟩⟩

theorem BorC.nil : BorC st B [] [] := ⟨rfl, rfl, fun Γ g a w S β Fs hi hn ys F h _ => by unfold RepL at h; rw [h.1]; exact RepL_nil⟩
theorem BorC.cons {d d' : D} {ds ds' : List D} (h : Bor1 st B d d') (h' : BorC st B ds ds') : BorC st B (d :: ds) (d' :: ds') :=
  ⟨by simp [menL, h.1, h'.1], by simp [h'.2.1], fun Γ g a w S β Fs hi hn ys F hr hF => by
    unfold RepL at hr
    obtain ⟨y, ys', F1, F2, rfl, rfl, h0, h1, h2⟩ := hr
    have := RepL_cons h0 (h.2 Γ g a w S β Fs hi hn _ _ h1 fun b hb => hF b (by simp [hb])) (h'.2.2 Γ g a w S β Fs hi hn _ _ h2 fun b hb => hF b (by simp [hb]))
    exact this⟩
theorem BorC.append {a a' b b' : List D} (h : BorC st B a a') (h' : BorC st B b b') : BorC st B (a ++ b) (a' ++ b') :=
  ⟨by rw [menL_append, h.1, h'.1]; rfl, by simp [h.2.1, h'.2.1], fun Γ g ac w S β Fs hi hn ys F hr hF => by
    obtain ⟨y1, y2, F1, F2, rfl, rfl, h1, h2⟩ := RepL_append hr
    have := RepL_append_mk (h.2.2 Γ g ac w S β Fs hi hn _ _ h1 fun b hb => hF b (by simp [hb])) (h'.2.2 Γ g ac w S β Fs hi hn _ _ h2 fun b hb => hF b (by simp [hb]))
    exact this⟩
theorem BorC.map {α : Type} {f f' : α → D} (h : ∀ x, Bor1 st B (f x) (f' x)) : ∀ xs : List α, BorC st B (xs.map f) (xs.map f')
  | [] => .nil
  | x :: xs => .cons (h x) (BorC.map h xs)
theorem BorC.flatMap {α : Type} {f f' : α → List D} (h : ∀ x, BorC st B (f x) (f' x)) : ∀ xs : List α, BorC st B (xs.flatMap f) (xs.flatMap f')
  | [] => .nil
  | x :: xs => by rw [List.flatMap_cons, List.flatMap_cons]; exact .append (h x) (BorC.flatMap h xs)

theorem Bor1.fr {sz n : Nat} {ds ds' : List D} (h : BorC st B ds ds') : Bor1 st B (.fr sz n ds) (.sl n 0 ds') := ⟨rfl, fun Γ g a w S β Fs hi hn y F hr hF => by
  unfold Rep at hr ⊢
  obtain ⟨aa, cap, rfl, hl, hmn, hr⟩ := hr
  refine ⟨rfl, h.1, aa, cap, rfl, ?_⟩
  rcases hr with ⟨rfl, rfl, rfl, rfl⟩ | ⟨b, o, pre, ys, rest, E, F', rfl, k1, k2, k3, k4, rfl, k5⟩
  · exact .inl rfl
  · refine .inr ⟨b, o, ys, by simp, .inr (hF b (by simp)), ⟨pre, rest, E, _, k3, k4⟩, ?_⟩
    exact h.2.2 Γ g a w S β Fs hi hn _ _ (RepL.beta _ _ _ (by rw [hmn]; simp) k5) fun c hc => hF c (by simp [hc])⟩

theorem needRoots_of {g : X} : ∀ {B : List Nat} {r : Nat}, Needs g (needRoots st B) → r ∈ B → Needs g (needRoot st r)
  | q :: B, r, hn, hr => by
    rw [needRoots, Needs.append] at hn
    rcases List.mem_cons.1 hr with rfl | hr
    · exact hn.1
    · exact needRoots_of hn.2 hr

theorem lentRoot {r sz : Nat} {cells cells' : List D} {refs : List Nat} (hr : r ∈ B) (hl : look st (2 * r + 1) = some (.r (.arr sz cells refs))) (h : BorC st B cells cells')
    {Γ : Ctx} {g : X} {a : Act} {w : World} {S : Nat → Prop} {β : Beta} {Fs : Nat → List Nat} (hi : Inv Γ g a w S β Fs) (hn : Needs g (needRoots st B)) :
    (β r = .nil ∧ cells = []) ∨ ∃ b o m ys, β r = .blk b o sz m ∧ SB S Fs B b ∧ Seg w b o ys ∧ RepL w (SB S Fs B) cells' noB ys [] := by
  have hn1 := needRoots_of hn hr
  simp only [needRoot, hl, Needs] at hn1
  have hroot := hi.roots r _ hn1.1
  cases eb : β r with
  | none => rw [eb] at hroot; exact hroot.ne.elim
  | nil => rw [eb] at hroot; exact .inl ⟨rfl, hroot.1⟩
  | blk b o szb m =>
    rw [eb] at hroot
    obtain ⟨rfl, pre, ys, rest, E, F', h1, h2, h3, hF, h5, h6⟩ := hroot
    refine .inr ⟨b, o, m, ys, rfl, .inr ⟨r, hr, by rw [hF]; simp⟩, ⟨pre, rest, E, _, h1, h3⟩, ?_⟩
    exact h.2.2 Γ g a w S β Fs hi hn _ _ (RepL.unres (List.all_eq_true.2 fun m hm => h6 m hm) h5) fun c hc => ⟨r, hr, by rw [hF]; simp [hc]⟩

theorem Bor1.rs {r off n sz : Nat} {cells cells' : List D} {refs : List Nat} (hr : r ∈ B) (hl : look st (2 * r + 1) = some (.r (.arr sz cells refs))) (h : BorC st B cells cells') : Bor1 st B (.rs r off n) (.sl n off cells') :=
  ⟨rfl, fun Γ g a w S β Fs hi hn y F hr' hF => by
    have hh := lentRoot hr hl h hi hn
    unfold Rep at hr' ⊢
    rcases hh with ⟨eb, rfl⟩ | ⟨b, o, m, ys, eb, h1, h2, h3⟩
    · rw [eb] at hr'
      obtain ⟨_, rfl, rfl, rfl⟩ := hr'
      exact ⟨rfl, h.1, _, _, rfl, .inl rfl⟩
    · rw [eb] at hr'
      obtain ⟨_, cap, rfl, _⟩ := hr'
      exact ⟨rfl, h.1, _, _, rfl, .inr ⟨b, o, ys, rfl, h1, h2, h3⟩⟩⟩

theorem Bor1.rp {r off sz : Nat} {cells cells' : List D} {refs : List Nat} (hr : r ∈ B) (hl : look st (2 * r + 1) = some (.r (.arr sz cells refs))) (h : BorC st B cells cells') : Bor1 st B (.rp r off) (.pt cells' off) :=
  ⟨rfl, fun Γ g a w S β Fs hi hn y F hr' hF => by
    have hh := lentRoot hr hl h hi hn
    unfold Rep at hr' ⊢
    rcases hh with ⟨eb, rfl⟩ | ⟨b, o, m, ys, eb, h1, h2, h3⟩
    · rw [eb] at hr'; exact hr'.2.elim
    · rw [eb] at hr'
      exact ⟨rfl, h.1, b, o, ys, hr'.2, h1, h2, h3⟩⟩

theorem Bor1.fn {f : FuncId} {caps caps' : List D} (h : BorC st B caps caps') : Bor1 st B (.fn f caps) (.fb f caps') :=
  ⟨rfl, fun Γ g a w S β Fs hi hn y F hr hF => by
    unfold Rep at hr ⊢
    obtain ⟨ys, e, hr⟩ := hr
    exact ⟨rfl, h.1, ys, e, h.2.2 Γ g a w S β Fs hi hn _ _ hr hF⟩⟩

theorem Bor.of1 {d d' : D} (h : Bor1 st B d d') : Bor st B ρ d d' := fun Γ g a w S β Fs hi hn y hr =>
  Rep.beta d' y [] (by rw [h.1]; simp) (h.2 Γ g a w S β Fs hi hn y [] hr (by simp))
theorem Bor.pass {d d' : D} (h : Pass ρ d d') : Bor st B ρ d d' := fun _ _ _ w S β _ _ _ y hr => (h w S β y hr).inS
theorem Bor.any {d : D} : Bor st B ρ d .any := Bor.pass Pass.any
theorem Bor.same {d : D} (h : d.men = []) : Bor st B ρ d d := Bor.pass (Pass.same h)
theorem Bor.keep {d : D} : Bor st B id d d := fun _ _ _ _ _ _ _ _ _ _ hr => hr.inS
theorem Bor.agg {ds ds' : List D} (h : BorC st B ds ds') : Bor st B ρ (.agg ds) (.agg ds') := fun Γ g a w S β Fs hi hn y hr => by
  unfold Rep at hr ⊢
  obtain ⟨ys, e, hr⟩ := hr
  exact ⟨ys, e, RepL.beta _ _ _ (by rw [h.1]; simp) (h.2.2 Γ g a w S β Fs hi hn _ _ hr (by simp))⟩
theorem Bor.rs {r off n sz : Nat} {cells cells' : List D} {refs : List Nat} (hr : B.contains r = true) (hl : look st (2 * r + 1) = some (.r (.arr sz cells refs))) (h : BorC st B cells cells') : Bor st B ρ (.rs r off n) (.sl n off cells') :=
  .of1 (.rs (by simpa using hr) hl h)
theorem Bor.rp {r off sz : Nat} {cells cells' : List D} {refs : List Nat} (hr : B.contains r = true) (hl : look st (2 * r + 1) = some (.r (.arr sz cells refs))) (h : BorC st B cells cells') : Bor st B ρ (.rp r off) (.pt cells' off) :=
  .of1 (.rp (by simpa using hr) hl h)
theorem Bor.then {d d' d'' : D} (h : Bor st B id d d') (h' : Pass ρ d' d'') : Bor st B ρ d d'' := fun Γ g a w S β Fs hi hn y hr => h' _ _ β y (h Γ g a w S β Fs hi hn y hr)
theorem Bor.rpSub {r off sz n : Nat} {cells cells' ds' : List D} {refs : List Nat} (hr : B.contains r = true) (hl : look st (2 * r + 1) = some (.r (.arr sz cells refs))) (h : BorC st B cells cells')
    (hoff : off ≤ cells'.length) (hd : (cells'.drop off).take n = ds') (hn : ds'.length = n) : Bor st B ρ (.rp r off) (.pt ds' 0) := (Bor.rp hr hl h).then (Pass.pt hoff hd hn)
theorem Bor.fn {f : FuncId} {caps caps' : List D} (h : BorC st B caps caps') : Bor st B ρ (.fn f caps) (.fb f caps') := .of1 (.fn h)

theorem BorL.nil : BorL st B ρ [] [] := fun _ _ _ _ _ _ _ _ _ ys h => by unfold RepT at *; exact h
theorem BorL.cons {d d' : D} {ds ds' : List D} (h : Bor st B ρ d d') (h' : BorL st B ρ ds ds') : BorL st B ρ (d :: ds) (d' :: ds') := fun Γ g a w S β Fs hi hn ys hr => by
  unfold RepT at hr ⊢
  obtain ⟨y, ys', F1, F2, rfl, e, h1, h2⟩ := hr
  simp only [List.nil_eq, List.append_eq_nil_iff] at e
  obtain ⟨rfl, rfl⟩ := e
  exact ⟨y, ys', [], [], rfl, rfl, h Γ g a w S β Fs hi hn y h1, h' Γ g a w S β Fs hi hn ys' h2⟩

/-- The parts of an aggregate, each in its own way. -/
def BorA (st : St) (B : List Nat) (ρ : Nat → Nat) (ds ds' : List D) : Prop := ∀ Γ g a w S β Fs, Inv Γ g a w S β Fs → Needs g (needRoots st B) → ∀ ys, RepL w S ds β ys [] → RepL w (SB S Fs B) ds' (fun i => β (ρ i)) ys []
theorem BorA.nil : BorA st B ρ [] [] := fun _ _ _ _ _ _ _ _ _ ys h => by unfold RepL at *; exact h
theorem BorA.cons {d d' : D} {ds ds' : List D} (h : Bor st B ρ d d') (h' : BorA st B ρ ds ds') : BorA st B ρ (d :: ds) (d' :: ds') := fun Γ g a w S β Fs hi hn ys hr => by
  unfold RepL at hr ⊢
  obtain ⟨y, ys', F1, F2, rfl, e, h0, h1, h2⟩ := hr
  simp only [List.nil_eq, List.append_eq_nil_iff] at e
  obtain ⟨rfl, rfl⟩ := e
  exact ⟨y, ys', [], [], rfl, rfl, h0, h Γ g a w S β Fs hi hn y h1, h' Γ g a w S β Fs hi hn ys' h2⟩
theorem Bor.aggA {ds ds' : List D} (h : BorA st B ρ ds ds') : Bor st B ρ (.agg ds) (.agg ds') := fun Γ g a w S β Fs hi hn y hr => by
  unfold Rep at hr ⊢
  obtain ⟨ys, e, hr⟩ := hr
  exact ⟨ys, e, h Γ g a w S β Fs hi hn ys hr⟩
end

/-! ### lent for good -/
inductive FrzL (st : St) (B : List Nat) : List (Nat × D) → Prop
  | nil : FrzL st B []
  | cons {t : Nat} {d d' : D} {l : List (Nat × D)} : look st (2 * t) = some (.d d) → Bor st B id d d' → FrzL st B l → FrzL st B ((t, d') :: l)

def frzWr (cv : List (Nat × D)) (B : List Nat) : Wr := cv.map (fun p => (2 * p.1, some (.d p.2))) ++ B.map fun r => (2 * r + 1, none)

theorem FrzL.rep {st : St} {B : List Nat} {Γ : Ctx} {a : Act} {w : World} {S : Nat → Prop} {β : Beta} {Fs : Nat → List Nat} (hi : Inv Γ (look st) a w S β Fs) (hn : Needs (look st) (needRoots st B)) :
    ∀ {cv : List (Nat × D)}, FrzL st B cv → ∀ t d, upd (look st) (frzWr cv B) (2 * t) = some (.d d) → Rep w (SB S Fs B) d β (a.tmps.getD t undef) []
  | _, .nil, t, d, h => by
    have h' : upd (look st) (B.map fun r => (2 * r + 1, none)) (2 * t) = some (.d d) := h
    rw [upd_other (by simp; omega)] at h'
    exact (hi.slots t d h').inS
  | _, @FrzL.cons _ _ t' d0 d' l h1 h2 h3, t, d, h => by
    have h' : (if 2 * t = 2 * t' then some (Ent.d d') else upd (look st) (frzWr l B) (2 * t)) = some (.d d) := h
    by_cases e : t = t'
    · subst e
      rw [if_pos rfl] at h'; cases h'
      exact h2 Γ _ a w S β Fs hi hn _ (hi.slots t _ h1)
    · rw [if_neg (by omega)] at h'
      exact FrzL.rep hi hn h3 t d h'

theorem upd_frz_root {g : X} {B : List Nat} {r : Nat} : ∀ {cv : List (Nat × D)}, upd g (frzWr cv B) (2 * r + 1) = if B.contains r then none else g (2 * r + 1)
  | [] => by
    show upd g (B.map fun r => (2 * r + 1, none)) (2 * r + 1) = _
    induction B with
    | nil => rfl
    | cons q B ih =>
      show (if 2 * r + 1 = 2 * q + 1 then none else upd g (B.map fun r => (2 * r + 1, none)) (2 * r + 1)) = _
      rw [ih]
      by_cases e : r = q
      · subst e; simp
      · rw [if_neg (by omega)]; simp [e]
  | p :: l => by
    show (if 2 * r + 1 = 2 * p.1 then _ else upd g (frzWr l B) (2 * r + 1)) = _
    rw [if_neg (by omega), upd_frz_root]

theorem imp_freeze {np : Nat} {st : St} {B : List Nat} {cv : List (Nat × D)} (h : FrzL st B cv) : Imp np st (updSt st (frzWr cv B)) := fun Γ hnp a w hs => by
  obtain ⟨S, β, Fs, hi⟩ := hs
  unfold Sat
  rw [look_updSt]
  refine ⟨SB S Fs B, β, fun r => if B.contains r then [] else Fs r, {
    defers := hi.defers, size := hi.size, slots := FrzL.rep hi needs_roots h, roots := ?_, noroot := ?_, nodup := ?_, disj := ?_, own := ?_, s0 := fun b hb => .inl (hi.s0 b hb), sOk := ?_, ext := hi.ext, fix := hi.fix }⟩
  · intro r x hx
    rw [upd_frz_root] at hx
    split at hx
    · cases hx
    · rename_i hc
      simp only [if_neg hc]
      exact (hi.roots r x hx).mono (fun _ _ => rfl) inSB (fun _ _ => rfl)
  · intro r hr
    simp only [upd_frz_root] at hr
    by_cases hc : B.contains r = true
    · simp only [if_pos hc]
    · simp only [if_neg hc] at hr ⊢
      exact hi.noroot r hr
  · intro r; split
    · exact List.nodup_nil
    · exact hi.nodup r
  · intro r r' hne c hc hc'
    split at hc
    · cases hc
    · split at hc'
      · cases hc'
      · exact hi.disj r r' hne c hc hc'
  · intro r c hc
    split at hc
    · cases hc
    · rename_i hB
      have h1 := hi.own r c hc
      refine ⟨?_, h1.2⟩
      rintro (hs | ⟨q, hq, hcq⟩)
      · exact h1.1 hs
      · have : q ≠ r := by rintro rfl; exact hB (by simpa using hq)
        exact hi.disj q r this c hcq hc
  · rintro b (hb | ⟨q, hq, hcq⟩)
    · exact hi.sOk b hb
    · have h1 := hi.own q b hcq
      exact ⟨h1.2.1, .inr h1.2.2⟩

/-! ### lent for a call -/
def NoBor (d : D) : Prop := ∀ (w : World) (S S' : Nat → Prop) (β : Beta) (y : Value) (F : List Nat), Rep w S d β y F → Rep w S' d β y F
def NoBorL (ds : List D) : Prop := ∀ (w : World) (S S' : Nat → Prop) (β : Beta) (ys : List Value) (F : List Nat), RepL w S ds β ys F → RepL w S' ds β ys F

theorem NoBor.v {x : Value} : NoBor (.v x) := fun _ _ _ _ _ _ h => by unfold Rep at *; exact h
theorem NoBor.any : NoBor .any := fun _ _ _ _ _ _ h => by unfold Rep at *; exact h
theorem NoBorL.nil : NoBorL [] := fun _ _ _ _ _ _ h => by unfold RepL at *; exact h
theorem NoBorL.cons {d : D} {ds : List D} (h : NoBor d) (h' : NoBorL ds) : NoBorL (d :: ds) := fun w S S' β ys F hr => by
  unfold RepL at hr ⊢
  obtain ⟨y, ys', F1, F2, e1, e2, h0, h1, h2⟩ := hr
  exact ⟨y, ys', F1, F2, e1, e2, h0, h _ _ _ _ _ _ h1, h' _ _ _ _ _ _ h2⟩
theorem NoBorL.append {ds ds' : List D} (h : NoBorL ds) (h' : NoBorL ds') : NoBorL (ds ++ ds') := fun w S S' β ys F hr => by
  obtain ⟨y1, y2, F1, F2, rfl, rfl, h1, h2⟩ := RepL_append hr
  exact RepL_append_mk (h _ _ _ _ _ _ h1) (h' _ _ _ _ _ _ h2)
theorem NoBorL.map {α : Type} {f : α → D} (h : ∀ x, NoBor (f x)) : ∀ xs : List α, NoBorL (xs.map f)
  | [] => .nil
  | x :: xs => .cons (h x) (NoBorL.map h xs)
theorem NoBorL.flatMap {α : Type} {f : α → List D} (h : ∀ x, NoBorL (f x)) : ∀ xs : List α, NoBorL (xs.flatMap f)
  | [] => .nil
  | x :: xs => by rw [List.flatMap_cons]; exact .append (h x) (NoBorL.flatMap h xs)
theorem NoBor.agg {ds : List D} (h : NoBorL ds) : NoBor (.agg ds) := fun w S S' β y F hr => by
  unfold Rep at hr ⊢
  obtain ⟨ys, e, hr⟩ := hr
  exact ⟨ys, e, h _ _ _ _ _ _ hr⟩
theorem NoBor.tup {ds : List D} (h : ∀ d ∈ ds, NoBor d) : NoBor (.tup ds) := fun w S S' β y F hr => by
  unfold Rep at hr ⊢
  obtain ⟨ys, e, hr⟩ := hr
  refine ⟨ys, e, ?_⟩
  clear e
  induction ds generalizing ys F with
  | nil => unfold RepT at *; exact hr
  | cons d ds ih =>
    unfold RepT at hr ⊢
    obtain ⟨y, ys', F1, F2, e1, e2, h1, h2⟩ := hr
    exact ⟨y, ys', F1, F2, e1, e2, h d (by simp) _ _ _ _ _ _ h1, ih (fun d hd => h d (by simp [hd])) F2 ys' h2⟩
theorem NoBor.fr {sz n : Nat} {ds : List D} (h : NoBorL ds) : NoBor (.fr sz n ds) := fun w S S' β y F hr => by
  unfold Rep at hr ⊢
  obtain ⟨aa, cap, rfl, hl, hmn, hr⟩ := hr
  refine ⟨aa, cap, rfl, hl, hmn, ?_⟩
  rcases hr with hr | ⟨b, o, pre, ys, rest, E, F', e1, k1, k2, k3, k4, e2, k5⟩
  · exact .inl hr
  · exact .inr ⟨b, o, pre, ys, rest, E, F', e1, k1, k2, k3, k4, e2, h _ _ _ _ _ _ k5⟩

def NoBorR : Root → Prop
  | .arr _ cells _ => NoBorL cells
  | .mp _ => True
def NoBorRs : List (Nat × Root) → Prop
  | [] => True
  | p :: l => NoBorR p.2 ∧ NoBorRs l

theorem NoBorRs.get : ∀ {l : List (Nat × Root)}, NoBorRs l → ∀ p ∈ l, NoBorR p.2
  | _ :: _, h, p, hp => by
    rcases List.mem_cons.1 hp with rfl | hp
    · exact h.1
    · exact NoBorRs.get h.2 p hp

theorem RootRep.noBor {w : World} {S S' : Nat → Prop} {β : Beta} {x : Root} {rb : RefB} {F : List Nat} (hx : NoBorR x) (h : RootRep w S β x rb F) : RootRep w S' β x rb F := by
  cases x with
  | mp es => cases rb <;> exact h
  | arr sz cells refs =>
    cases rb with
    | none => exact h
    | nil => exact h
    | blk b o sz' m =>
      obtain ⟨e, pre, ys, rest, E, F', k1, k2, k3, k4, k5, k6⟩ := h
      exact ⟨e, pre, ys, rest, E, F', k1, k2, k3, k4, hx _ _ _ _ _ _ k5, k6⟩

section
variable {P : Program} {o : Oper} {N t : Nat} {st : St}

theorem fnOf_rep {d : D} {f : FuncId} {caps : List D} (h : fnOf d = some (f, caps)) {w : World} {S : Nat → Prop} {β : Beta} {y : Value} {F : List Nat} (hr : Rep w S d β y F) : ∃ cvs : List Value, y = .func (.func f) #[] cvs.toArray ∧ RepL w S caps β cvs F := by
  cases d <;> simp [fnOf] at h
  case fn g caps' =>
    obtain ⟨rfl, rfl⟩ := h
    unfold Rep at hr
    obtain ⟨ys, e, hr⟩ := hr
    exact ⟨ys, e, hr⟩
  case fb g caps' =>
    obtain ⟨rfl, rfl⟩ := h
    unfold Rep at hr
    obtain ⟨rfl, hm, ys, e, hr⟩ := hr
    exact ⟨ys, e, RepL.beta _ _ _ (by rw [hm]; simp) hr⟩

theorem opx_callB {f : FuncId} {fop : Operand} {xs : Array Operand} {ts : Array TypeId} {caps : List D} {B : List Nat} {ρ : Nat → Nat} {rin rout : List (Nat × Root)} {args : List D} {res : D} {n : Nat}
    (ho : o.op = .call ⟨.value fop, xs, ts⟩) (hd : o.dst = some t ∨ (o.dst = none ∧ (plc n res).2 = [])) (ht : t < N) (hf : fnOf (evD st fop) = some (f, caps)) (hok : CallOk P f) (hp : BorL st B ρ (xs.toList.map (evD st) ++ caps) args)
    (hc : FnC P f rin args rout res) (hb : rinB ρ rin rout = true) (hrB : ∀ p ∈ rin, ρ p.1 ∉ B) (hm : res.men = []) (hfl : flatT res = true) (hw : narrow res = true) (hnb : B = [] ∨ (NoBor res ∧ NoBorRs rout)) :
    OpX P o N (needOf st fop ++ (needAll st xs.toList ++ (rinNeed ρ rin ++ needRoots st B))) ((match o.dst with | some t => [(2 * t, some (.d (plc n res).1))] | none => []) ++ (wrNew (plc n res).2 ++ wrRoots ρ rin rout)) (freshFrom n (widthT res + 1)) := by
  intro Γ hN g a w K Q hs hneed hfr hK
  obtain ⟨S, β, Fs, hi⟩ := hs
  simp only [Needs.append] at hneed
  obtain ⟨n1, n2, n3, n4⟩ := hneed
  obtain ⟨cvs, ef, hcaps⟩ := fnOf_rep hf (hi.eval n1)
  simp only [rinB, Bool.and_eq_true, List.all_eq_true] at hb
  obtain ⟨⟨⟨b1, b2⟩, b3⟩, b4⟩ := hb
  have b3 := of_decide_eq_true b3
  have b4 := of_decide_eq_true b4
  have hin : RinOk g ρ rin := ⟨fun p hp => ⟨rinNeed_spec n3 p hp, by simpa using b1 p hp⟩, fun x hx y hy e => by rw [nodup_inj b4 x hx y hy e], fun x hx y hy e => nodup_inj b3 x hx y hy e⟩
  have hro : ∀ p ∈ rout, rootRefs p.2 = [] ∧ ∃ q ∈ rin, q.1 = p.1 := fun p hp => by
    have := b2 p hp
    exact ⟨by simpa using this.1, by simpa using List.any_eq_true.1 this.2⟩
  have hargs := hp Γ g a w S β Fs hi n4 _ (RepT_append_mk (evAll hi n2) hcaps.toT)
  have hroots : Roots (look (rootSt rin)) w (SB S Fs B) (fun i => β (ρ i)) (calleeF Fs ρ rin) := by
    have h0 := callee_roots hi hin
    refine { roots := fun r x hx => (h0.roots r x hx).mono (fun _ _ => rfl) inSB (fun _ _ => rfl), noroot := h0.noroot, nodup := h0.nodup, disj := h0.disj, own := fun r b hb => ⟨?_, (h0.own r b hb).2⟩, sOk := ?_ }
    · rintro (h | ⟨q, hq, hbq⟩)
      · exact (h0.own r b hb).1 h
      · obtain ⟨p, hp, hbp⟩ := owned_callee.1 ⟨r, hb⟩
        have : q ≠ ρ p.1 := by rintro rfl; exact hrB p hp hq
        exact hi.disj q (ρ p.1) this b hbq hbp
    · rintro b (h | ⟨q, hq, hbq⟩)
      · exact h0.sOk b h
      · exact (hi.own q b hbq).2.1
  have hcall := hc w (SB S Fs B) (fun i => β (ρ i)) (calleeF Fs ρ rin) _ hroots hargs
  have hrun : (execOp a.eval o).run P w = .ok (.enter f (xs.toList.map a.eval ++ cvs).toArray) w := by
    simp only [execOp, ho, resolve, ef, Deferred.ofValue, Sem.run_bind, Sem.run_pure, Result.andThen_ok, invoke]
    rw [show (#[] ++ Array.map a.eval xs ++ cvs.toArray) = (xs.toList.map a.eval ++ cvs).toArray by apply Array.ext'; simp]
    exact hok w _
  unfold Oper.wp
  rw [hrun]
  show Calls P f _ w _
  refine hcall.mono fun e w' hpost => ?_
  obtain ⟨y, S'', Fc, F, rfl, hx, hSS, hS'', hR, hFc, hrep, hFn, hFo⟩ := hpost
  show K (a.put o.dst y) w'
  -- what stays borrowed behind the call
  obtain ⟨S', hS1, hS2, hS3, hR', hrep1⟩ : ∃ S' : Nat → Prop, (∀ b, S b → S' b) ∧ (∀ b, S' b → S'' b) ∧ (∀ b, S' b → b < w'.heap.size ∧ (S b ∨ owned (calleeF Fs ρ rin) b ∨ w.heap.size ≤ b)) ∧
      Roots (look (rootSt rout)) w' S' (fun i => β (ρ i)) Fc ∧ Rep w' S' res (fun i => β (ρ i)) y F := by
    rcases hnb with rfl | ⟨hnb1, hnb2⟩
    · have hl : ∀ b, ¬ lent Fs [] b := fun b ⟨q, hq, _⟩ => by cases hq
      refine ⟨S'', fun b hb => hSS b (.inl hb), fun b hb => hb, fun b hb => ⟨(hS'' b hb).1, ?_⟩, hR, hrep⟩
      rcases (hS'' b hb).2 with (h | h) | h
      · exact .inl h
      · exact (hl b h).elim
      · exact .inr h
    · refine ⟨fun b => S'' b ∧ ¬ lent Fs B b, fun b hb => ⟨hSS b (.inl hb), fun ⟨q, hq, hbq⟩ => (hi.own q b hbq).1 hb⟩, fun b hb => hb.1, fun b hb => ⟨(hS'' b hb.1).1, ?_⟩, ?_, hnb1 _ _ _ _ _ _ hrep⟩
      · rcases (hS'' b hb.1).2 with (h | h) | h
        · exact .inl h
        · exact (hb.2 h).elim
        · exact .inr h
      · exact { roots := fun r x hx => (hR.roots r x hx).noBor (NoBorRs.get hnb2 _ (look_rootSt_mem hx)), noroot := hR.noroot, nodup := hR.nodup, disj := hR.disj, own := fun r b hb => ⟨fun h => (hR.own r b hb).1 h.1, (hR.own r b hb).2⟩, sOk := fun b hb => hR.sOk b hb.1 }
  have hi2 := hi.call hin hro hx hS1 hS3 hR' hFc
  have fromF0 : ∀ b, owned (calleeF Fs ρ rin) b ∨ w.heap.size ≤ b → Γ.F0 b ∨ Γ.w0.heap.size ≤ b := by
    rintro b (h | h)
    · obtain ⟨p, hp, hb'⟩ := owned_callee.1 h
      exact (hi.own _ b hb').2.2
    · exact .inr (Nat.le_trans hi.ext.size h)
  have hfree : FOk Γ w' S' (backF Fs Fc ρ rin) F := by
    intro b hb
    have h1 := hFo b hb
    refine ⟨fun h => h1.1 (hS2 b h), h1.2.1, fromF0 b h1.2.2.1, fun q hq => ?_⟩
    rcases backF_cases (Fs := Fs) (Fc := Fc) (ρ := ρ) (rin := rin) q with ⟨p, hp, rfl, e⟩ | ⟨hno, e⟩
    · rw [e] at hq; exact h1.2.2.2 _ hq
    · rw [e] at hq
      rcases h1.2.2.1 with h | h
      · obtain ⟨p, hp, hb'⟩ := owned_callee.1 h
        exact hi.disj (ρ p.1) q (hno p hp) b hb' hq
      · have := (hi.own q b hq).2.1; omega
  have hnp : ∀ i, i < widthT res + 1 → Γ.np ≤ n + i ∧ FreshName g (n + i) := fun i hi => hfr (n + i) (by
    simp only [freshFrom, List.mem_range'_1]; omega)
  have hfr2 : ∀ i, i < widthT res → FreshName (upd g (wrRoots ρ rin rout)) (n + i) := fun i hi' => (hnp i (by omega)).2.updAll fun p hp => by
    obtain ⟨q, hq, rfl⟩ := List.mem_map.1 hp
    refine ⟨fun e => ?_, fun e he => ?_⟩
    · have := (hnp i (by omega)).2 _ _ (rinNeed_spec n3 q hq)
      exact this.1 e
    · obtain ⟨x, rfl⟩ := look_rootSt_odd he
      exact names_noRefs (hro _ (look_rootSt_mem he)).1
  have hrep' : Rep w' S' res β y F := Rep.beta res y F (by rw [hm]; simp) hrep1
  obtain ⟨β', Fs', hi3, hr3⟩ := place hi2 hrep' hFn hfree hm hfl hw (by have := (hnp 0 (by omega)).1; simpa using this) hfr2
  cases hdd : o.dst with
  | none =>
    have hK' := hK (a.put o.dst y) w'
    rw [hdd] at hK'
    refine hK' ⟨S', β', Fs', ?_⟩
    rw [List.nil_append, upd_append]
    exact hi3
  | some t' =>
    have e : t' = t := by
      rcases hd with h | h
      · rw [hdd] at h; cases h; rfl
      · rw [hdd] at h; cases h.1
    subst e
    have hK' := hK (a.put o.dst y) w'
    rw [hdd] at hK'
    refine hK' ⟨S', β', Fs', ?_⟩
    rw [upd_append, upd_append]
    exact hi3.put (by omega) hr3
end
end Go.Gx
