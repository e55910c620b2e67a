/- States by value, what they say of an activation and a world, and how they turn. -/
import Derived.Test.YtggojehmbpbefaaGxA
namespace Go.Gx

/-- An owned root: a row of cells (element size, cells, the roots that the cells name), or a map. -/
inductive Root where
  | arr (sz : Nat) (cells : List D) (refs : List Nat)
  | mp (es : List (Value × Value))

def Beta.res (β : Beta) (refs : List Nat) : Beta := fun r => if refs.contains r then β r else .none

def RootRep (w : World) (S : Nat → Prop) (β : Beta) : Root → RefB → List Nat → Prop
  | .arr _ cells _, .nil, F => cells = [] ∧ F = []
  | .arr sz cells refs, .blk b o sz' m, F => sz' = sz ∧ ∃ pre ys rest E F', w.heap[b]? = some (.cells (pre ++ ys ++ rest).toArray E (0, 0)) ∧
      m = (pre ++ ys ++ rest).length ∧ pre.length = o ∧ F = b :: F' ∧ RepL w S cells (β.res refs) ys F' ∧ ∀ m ∈ menL cells, refs.contains m = true
  | .mp es, .blk b _ _ _, F => F = [b] ∧ MapAt w b es
  | _, _, _ => False

inductive Ent where
  | d (x : D)
  | r (x : Root)

/-- The key of slot t is 2 t, of root r 2 r + 1. -/
abbrev X := Nat → Option Ent
abbrev Wr := List (Nat × Option Ent)

def upd : X → Wr → X
  | g, [] => g
  | g, (k, e) :: r => fun q => if q = k then e else upd g r q

/-- A call: its number of slots, the world at its start, what was borrowed and what was owned then, the names of the roots that came in (below np) and where they lay. -/
structure Ctx where
  N : Nat
  np : Nat
  w0 : World
  S0 : Nat → Prop
  F0 : Nat → Prop
  B0 : Beta

def noF : Nat → Prop := fun _ => False

structure Ext (w0 w : World) (F0 : Nat → Prop) : Prop where
  os : w.os = w0.os
  tape : w.tape = w0.tape
  output : w.output = w0.output
  size : w0.heap.size ≤ w.heap.size
  kept : ∀ b, b < w0.heap.size → ¬ F0 b → w.heap[b]? = w0.heap[b]?

structure Inv (Γ : Ctx) (g : X) (a : Act) (w : World) (S : Nat → Prop) (β : Beta) (Fs : Nat → List Nat) : Prop where
  defers : a.defers = []
  size : a.tmps.size = Γ.N
  slots : ∀ t d, g (2 * t) = some (.d d) → Rep w S d β (a.tmps.getD t undef) []
  roots : ∀ r x, g (2 * r + 1) = some (.r x) → RootRep w S β x (β r) (Fs r)
  noroot : ∀ r, (∀ x, g (2 * r + 1) ≠ some (.r x)) → Fs r = []
  nodup : ∀ r, (Fs r).Nodup
  disj : ∀ r r', r ≠ r' → ∀ b ∈ Fs r, b ∉ Fs r'
  own : ∀ r, ∀ b ∈ Fs r, ¬ S b ∧ b < w.heap.size ∧ (Γ.F0 b ∨ Γ.w0.heap.size ≤ b)
  s0 : ∀ b, Γ.S0 b → S b
  sOk : ∀ b, S b → b < w.heap.size ∧ (Γ.S0 b ∨ Γ.F0 b ∨ Γ.w0.heap.size ≤ b)
  ext : Ext Γ.w0 w Γ.F0
  fix : ∀ r, r < Γ.np → β r = Γ.B0 r

def Sat (Γ : Ctx) (g : X) (a : Act) (w : World) : Prop := ∃ S β Fs, Inv Γ g a w S β Fs

theorem Ext.refl (w : World) (F : Nat → Prop) : Ext w w F := ⟨rfl, rfl, rfl, Nat.le_refl _, fun _ _ _ => rfl⟩

theorem RootRep.mono {w w' : World} {S S' : Nat → Prop} {β : Beta} {x : Root} {rb : RefB} {F : List Nat} (hS : ∀ b, S b → w'.heap[b]? = w.heap[b]?) (hSS : ∀ b, S b → S' b)
    (hF : ∀ b ∈ F, w'.heap[b]? = w.heap[b]?) (h : RootRep w S β x rb F) : RootRep w' S' β x rb F := by
  cases x with
  | arr sz cells refs =>
    cases rb with
    | none => exact h
    | nil => exact h
    | blk b o sz' m =>
      obtain ⟨e, pre, ys, rest, E, F', h1, h2, h3, rfl, h4, h5⟩ := h
      exact ⟨e, pre, ys, rest, E, F', by rw [hF b (by simp)]; exact h1, h2, h3, rfl, RepL.mono hS hSS cells _ ys F' (fun b hb => hF b (by simp [hb])) h4, h5⟩
  | mp es =>
    cases rb with
    | none => exact h
    | nil => exact h
    | blk b o sz' m =>
      obtain ⟨rfl, h1⟩ := h
      exact ⟨rfl, by unfold MapAt at *; rw [hF b (by simp)]; exact h1⟩

theorem Rep.nilF {w : World} {S : Nat → Prop} {β : Beta} {d : D} {y : Value} {F : List Nat} (h : Rep w S d β y F) (e : F = []) : Rep w S d β y [] := e ▸ h

/-- A slot takes a value of which something is known. -/
theorem getD_put (a : Act) (t q : Nat) (y : Value) (h : t < a.tmps.size) : (a.put (some t) y).tmps.getD q undef = if q = t then y else a.tmps.getD q undef := by
  simp only [Act.put, Array.getD_eq_getD_getElem?, Array.getElem?_setIfInBounds]
  by_cases e : q = t
  · subst e; simp [h]
  · simp [e, Ne.symm e]

theorem upd_one (g : X) (k : Nat) (e : Option Ent) (q : Nat) : upd g [(k, e)] q = if q = k then e else g q := rfl

theorem Inv.put {Γ : Ctx} {g : X} {a : Act} {w : World} {S : Nat → Prop} {β : Beta} {Fs : Nat → List Nat} {t : Nat} {d : D} {y : Value}
    (h : Inv Γ g a w S β Fs) (ht : t < Γ.N) (hd : Rep w S d β y []) : Inv Γ (upd g [(2 * t, some (.d d))]) (a.put (some t) y) w S β Fs where
  defers := h.defers
  size := by simp [Act.put, h.size]
  slots := fun q d' hq => by
    rw [getD_put a t q y (by rw [h.size]; exact ht)]
    rw [upd_one] at hq
    by_cases e : q = t
    · subst e; simp at hq; subst hq; simpa using hd
    · rw [if_neg (by omega)] at hq; rw [if_neg e]; exact h.slots q d' hq
  roots := fun r x hr => h.roots r x (by rw [upd_one, if_neg (by omega)] at hr; exact hr)
  noroot := fun r hr => h.noroot r (fun x hx => hr x (by rw [upd_one, if_neg (by omega)]; exact hx))
  nodup := h.nodup
  disj := h.disj
  own := h.own
  s0 := h.s0
  sOk := h.sOk
  ext := h.ext
  fix := h.fix

/-- A slot of which nothing is known any more (an operation that is not wanted; one without a value). -/
theorem Inv.put_any {Γ : Ctx} {g : X} {a : Act} {w : World} {S : Nat → Prop} {β : Beta} {Fs : Nat → List Nat} {t : Nat} {y : Value}
    (h : Inv Γ g a w S β Fs) (ht : t < Γ.N) : Inv Γ (upd g [(2 * t, some (.d .any))]) (a.put (some t) y) w S β Fs :=
  h.put ht (by unfold Rep; rfl)

/-- The same activation in a world that is the same at all that matters. -/
theorem Inv.world {Γ : Ctx} {g : X} {a : Act} {w w' : World} {S : Nat → Prop} {β : Beta} {Fs : Nat → List Nat}
    (h : Inv Γ g a w S β Fs) (hx : Ext w w' noF) : Inv Γ g a w' S β Fs := by
  have hS : ∀ b, S b → w'.heap[b]? = w.heap[b]? := fun b hb => hx.kept b (h.sOk b hb).1 id
  have hF : ∀ r, ∀ b ∈ Fs r, w'.heap[b]? = w.heap[b]? := fun r b hb => hx.kept b (h.own r b hb).2.1 id
  exact {
    defers := h.defers
    size := h.size
    slots := fun t d ht => Rep.mono hS (fun _ h => h) d β _ [] (by simp) (h.slots t d ht)
    roots := fun r x hr => RootRep.mono hS (fun _ h => h) (hF r) (h.roots r x hr)
    noroot := h.noroot
    nodup := h.nodup
    disj := h.disj
    own := fun r b hb => ⟨(h.own r b hb).1, Nat.lt_of_lt_of_le (h.own r b hb).2.1 hx.size, (h.own r b hb).2.2⟩
    s0 := h.s0
    sOk := fun b hb => ⟨Nat.lt_of_lt_of_le (h.sOk b hb).1 hx.size, (h.sOk b hb).2⟩
    ext := ⟨hx.os.trans h.ext.os, hx.tape.trans h.ext.tape, hx.output.trans h.ext.output, Nat.le_trans h.ext.size hx.size,
      fun b hb hn => (hx.kept b (Nat.lt_of_lt_of_le hb h.ext.size) id).trans (h.ext.kept b hb hn)⟩
    fix := h.fix }

/-- Less is known. -/
theorem Inv.weaken {Γ : Ctx} {g g' : X} {a : Act} {w : World} {S : Nat → Prop} {β : Beta} {Fs : Nat → List Nat}
    (h : Inv Γ g a w S β Fs) (hg : ∀ k e, g' k = some e → g k = some e) : ∃ Fs', Inv Γ g' a w S β Fs' := by
  refine ⟨fun r => match g' (2 * r + 1) with | some (.r _) => Fs r | _ => [], ?_⟩
  have sub : ∀ r b, b ∈ (match g' (2 * r + 1) with | some (.r _) => Fs r | _ => []) → b ∈ Fs r := by
    intro r b hb; split at hb
    · exact hb
    · simp at hb
  exact {
    defers := h.defers
    size := h.size
    slots := fun t d ht => h.slots t d (hg _ _ ht)
    roots := fun r x hr => by simp only [hr]; exact h.roots r x (hg _ _ hr)
    noroot := fun r hr => by
      split
      · rename_i x hx; exact absurd hx (hr x)
      · rfl
    nodup := fun r => by
      split
      · exact h.nodup r
      · exact List.nodup_nil
    disj := fun r r' hne b hb hb' => h.disj r r' hne b (sub r b hb) (sub r' b hb')
    own := fun r b hb => h.own r b (sub r b hb)
    s0 := h.s0
    sOk := h.sOk
    ext := h.ext
    fix := h.fix }

/-- No entry names root r, and there is none of that name. -/
def Ent.names (r : Nat) : Ent → Bool
  | .d x => x.men.contains r
  | .r (.arr _ _ refs) => refs.contains r
  | .r (.mp _) => false

def FreshName (g : X) (r : Nat) : Prop := ∀ k e, g k = some e → k ≠ 2 * r + 1 ∧ e.names r = false

def setB (β : Beta) (r : Nat) (x : RefB) : Beta := fun q => if q = r then x else β q
def setF (Fs : Nat → List Nat) (r : Nat) (F : List Nat) : Nat → List Nat := fun q => if q = r then F else Fs q

theorem Rep.setB {w : World} {S : Nat → Prop} {β : Beta} {d : D} {y : Value} {F : List Nat} {r : Nat} {x : RefB} (hm : d.men.contains r = false) (h : Rep w S d β y F) : Rep w S d (setB β r x) y F :=
  Rep.beta d y F (fun q hq => by unfold Gx.setB; rw [if_neg]; rintro rfl; simp_all) h

theorem res_setB {β : Beta} {refs : List Nat} {r : Nat} {x : RefB} (h : refs.contains r = false) : (setB β r x).res refs = β.res refs := by
  funext q
  unfold Beta.res Gx.setB
  by_cases hq : refs.contains q = true
  · rw [if_pos hq, if_pos hq, if_neg]; rintro rfl; simp_all
  · rw [if_neg hq, if_neg hq]

theorem RootRep.setB {w : World} {S : Nat → Prop} {β : Beta} {x : Root} {rb : RefB} {F : List Nat} {r : Nat} {z : RefB} (hm : (Ent.r x).names r = false) (h : RootRep w S β x rb F) :
    RootRep w S (setB β r z) x rb F := by
  cases x with
  | arr sz cells refs =>
    cases rb with
    | none => exact h
    | nil => exact h
    | blk b o sz' m =>
      have e : (Gx.setB β r z).res refs = β.res refs := res_setB (by simpa [Ent.names] using hm)
      simpa only [RootRep, e] using h
  | mp es => cases rb <;> exact h

/-- A new root under a fresh name, its blocks new. -/
theorem Inv.newRoot {Γ : Ctx} {g : X} {a : Act} {w : World} {S : Nat → Prop} {β : Beta} {Fs : Nat → List Nat} {r : Nat} {x : Root} {rb : RefB} {F : List Nat}
    (h : Inv Γ g a w S β Fs) (hnp : Γ.np ≤ r) (hf : FreshName g r) (hx : RootRep w S (setB β r rb) x rb F) (hn : F.Nodup)
    (hF : ∀ b ∈ F, ¬ S b ∧ b < w.heap.size ∧ (Γ.F0 b ∨ Γ.w0.heap.size ≤ b) ∧ ∀ q, b ∉ Fs q) :
    Inv Γ (upd g [(2 * r + 1, some (.r x))]) a w S (setB β r rb) (setF Fs r F) where
  defers := h.defers
  size := h.size
  slots := fun t d ht => by
    rw [upd_one, if_neg (by omega)] at ht
    exact (h.slots t d ht).setB (by simpa [Ent.names] using (hf _ _ ht).2)
  roots := fun q z hq => by
    rw [upd_one] at hq
    by_cases e : q = r
    · subst e; simp at hq; subst hq; simpa [Gx.setB, setF] using hx
    · rw [if_neg (by omega)] at hq
      have := h.roots q z hq
      simp only [Gx.setB, setF, if_neg e]
      exact this.setB (hf _ _ hq).2
  noroot := fun q hq => by
    by_cases e : q = r
    · subst e; exact absurd (by rw [upd_one, if_pos rfl]) (hq x)
    · simp only [setF, if_neg e]
      exact h.noroot q (fun z hz => hq z (by rw [upd_one, if_neg (by omega)]; exact hz))
  nodup := fun q => by unfold setF; split; exact hn; exact h.nodup q
  disj := fun q q' hne b hb hb' => by
    unfold setF at hb hb'
    split at hb <;> split at hb'
    · omega
    · exact (hF b hb).2.2.2 q' hb'
    · exact (hF b hb').2.2.2 q hb
    · exact h.disj q q' hne b hb hb'
  own := fun q b hb => by
    unfold setF at hb
    split at hb
    · exact ⟨(hF b hb).1, (hF b hb).2.1, (hF b hb).2.2.1⟩
    · exact h.own q b hb
  s0 := h.s0
  sOk := h.sOk
  ext := h.ext
  fix := fun q hq => by unfold Gx.setB; rw [if_neg (by omega)]; exact h.fix q hq

end Go.Gx
