/- Short forms for the states that are printed. -/
import Derived.Test.YtggojehmbpbefaaGxY
namespace Go.Gx
/-- A struct whose owned slices are the roots q, q + 1, .. (by place). -/
def rsC (q : Nat) : List D → List D
  | [] => []
  | .fr _ n _ :: l => .rs q 0 n :: rsC (q + 1) l
  | d :: l => d :: rsC (q + 1) l
def rsR (q : Nat) : List D → List Nat
  | [] => []
  | .fr _ _ _ :: l => q :: rsR (q + 1) l
  | _ :: l => rsR (q + 1) l
def rsS (q : Nat) : List D → St
  | [] => []
  | .fr sz _ ds :: l => (2 * q + 1, .r (.arr sz ds [])) :: rsS (q + 1) l
  | _ :: l => rsS (q + 1) l
/-- A box: borrowed, or owned. -/
def bxB (k : Nat) (ds : List D) : Nat × Ent := (k, .r (.arr 1 ds []))
def bxO (k q : Nat) (ds : List D) : Nat × Ent := (k, .r (.arr 1 (rsC q ds) (rsR q ds)))
def rsP (q : Nat) : List D → List (Nat × Root)
  | [] => []
  | .fr sz _ ds :: l => (q, .arr sz ds []) :: rsP (q + 1) l
  | _ :: l => rsP (q + 1) l

theorem rsC_append : ∀ (q : Nat) (a b : List D), rsC q (a ++ b) = rsC q a ++ rsC (q + a.length) b
  | q, [], b => by simp [rsC]
  | q, d :: a, b => by
    have h := rsC_append (q + 1) a b
    rw [show q + 1 + a.length = q + (d :: a).length by simp; omega] at h
    cases d <;> simp only [List.cons_append, rsC, h]
theorem rsR_append : ∀ (q : Nat) (a b : List D), rsR q (a ++ b) = rsR q a ++ rsR (q + a.length) b
  | q, [], b => by simp [rsR]
  | q, d :: a, b => by
    have h := rsR_append (q + 1) a b
    rw [show q + 1 + a.length = q + (d :: a).length by simp; omega] at h
    cases d <;> simp only [List.cons_append, rsR, h]
theorem rsP_append : ∀ (q : Nat) (a b : List D), rsP q (a ++ b) = rsP q a ++ rsP (q + a.length) b
  | q, [], b => by simp [rsP]
  | q, d :: a, b => by
    have h := rsP_append (q + 1) a b
    rw [show q + 1 + a.length = q + (d :: a).length by simp; omega] at h
    cases d <;> simp only [List.cons_append, rsP, h]
theorem rsP_length : ∀ (q : Nat) (a : List D), (rsP q a).length = (rsR q a).length
  | _, [] => rfl
  | q, d :: a => by
    have h := rsP_length (q + 1) a
    cases d <;> simp only [rsP, rsR, List.length_cons, h]

theorem memB {B : List Nat} {r : Nat} (h : B.contains r = true) : r ∈ B := by simpa using h

/-- The roots of ds stand in the state, and are lent. -/
def Lent (st : St) (B : List Nat) (q : Nat) (ds : List D) : Prop :=
  (rsR q ds).all B.contains = true ∧ (rsR q ds).map (fun r => look st (2 * r + 1)) = (rsP q ds).map fun p => some (.r p.2)

theorem Lent.split {st : St} {B : List Nat} {q : Nat} {a b : List D} (h : Lent st B q (a ++ b)) : Lent st B q a ∧ Lent st B (q + a.length) b := by
  obtain ⟨h1, h2⟩ := h
  rw [rsR_append, List.all_append, Bool.and_eq_true] at h1
  rw [rsR_append, rsP_append, List.map_append, List.map_append] at h2
  obtain ⟨h3, h4⟩ := List.append_inj h2 (by simp [rsP_length])
  exact ⟨⟨h1.1, h3⟩, ⟨h1.2, h4⟩⟩

/-- An owned struct, its slices lent as roots, stands for the borrowed one. -/
def EncR {α : Type} (e : Enc α) : Prop := ∀ (st : St) (B : List Nat) (q : Nat) (x : α), Lent st B q (e.o x) → BorC st B (rsC q (e.o x)) (e.b x)
theorem eI_r : EncR eI := fun _ _ _ _ _ => .cons .v .nil
theorem eB_r : EncR eB := fun _ _ _ _ _ => .cons .v .nil
theorem eStr_r : EncR eStr := fun _ _ _ _ _ => .cons .v .nil
theorem eS_r {α : Type} {e : Enc α} (h : EncOk e) : EncR (eS e) := fun st B q x hl => by
  obtain ⟨h1, h2⟩ := hl
  have h1' : B.contains q = true := by
    have : [q].all B.contains = true := h1
    simpa using this
  have h2' : look st (2 * q + 1) = some (.r (.arr e.sz (x.flatMap e.o) [])) := by
    have : [look st (2 * q + 1)] = [some (.r (.arr e.sz (x.flatMap e.o) []))] := h2
    simpa using this
  exact .cons (.rs (by simpa using h1') h2' (bor_flat h st B x)) .nil
theorem eP_r {α : Type} {e : Enc α} : EncR (eP e) := fun _ _ _ _ _ => .cons (.same rfl rfl) .nil
theorem eC_r {α γ : Type} {e : Enc α} (h : EncR e) (f : γ → α) : EncR (eC e f) := fun st B q x hl => h st B q (f x) hl
theorem eA_r {γ : Type} {e e' : Enc γ} (h : EncR e) (h' : EncR e') : EncR (eA e e') := fun st B q x hl => by
  have hl' : Lent st B q (e.o x ++ e'.o x) := hl
  obtain ⟨h1, h2⟩ := hl'.split
  show BorC st B (rsC q (e.o x ++ e'.o x)) (e.b x ++ e'.b x)
  rw [rsC_append]
  exact .append (h st B q x h1) (h' st B _ x h2)
theorem bor_rs {α : Type} {e : Enc α} {st : St} {B : List Nat} {ρ : Nat → Nat} {q : Nat} {x : α} (h : EncR e) (hB : (rsR q (e.o x)).all B.contains = true)
    (hl : (rsR q (e.o x)).map (fun r => look st (2 * r + 1)) = (rsP q (e.o x)).map fun p => some (.r p.2)) : Bor st B ρ (.agg (rsC q (e.o x))) (.agg (e.b x)) :=
  .agg (h st B q x ⟨hB, hl⟩)
end Go.Gx
