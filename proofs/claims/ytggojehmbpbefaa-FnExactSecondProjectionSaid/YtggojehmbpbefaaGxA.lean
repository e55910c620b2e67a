/- The by-value domain and how a value stands for it in a world. -/
import Derived.Calls
import Derived.Orders
import Derived.Below
namespace Go.Gx

/-- What is known of a value. 'sl', 'pt': borrowed, read only; 'fr': owned, inside an owned block; 'rs', 'rp': a reference to an owned root. -/
inductive D where
  | any
  | v (x : Value)
  | agg (ds : List D)
  | tup (ds : List D)
  | sl (n off : Nat) (ds : List D)
  | pt (ds : List D) (off : Nat)
  | fr (sz n : Nat) (ds : List D)
  | rs (r off n : Nat)
  | rp (r off : Nat)
  | fn (f : FuncId) (caps : List D)
  | ifc (t : TypeId) (d : D)
  | rm (r : Nat)
  | bm (es : List (Value × Value))
  | fb (f : FuncId) (caps : List D)

/-- Where a root lies: nowhere, the nil slice, or a block from an offset on (element size, the block's size). -/
inductive RefB where
  | none
  | nil
  | blk (b o sz m : Nat)

-- the roots that a value names
mutual
def D.men : D → List Nat
  | .agg ds => menL ds
  | .tup ds => menL ds
  | .rs r _ _ => [r]
  | .rp r _ => [r]
  | .rm r => [r]
  | .fn _ caps => menL caps
  | .ifc _ d => d.men
  | _ => []
def menL : List D → List Nat
  | [] => []
  | d :: ds => d.men ++ menL ds
end

abbrev Beta := Nat → RefB
def noB : Beta := fun _ => .none

/-- The cells of block b from o on begin with ys. -/
def Seg (w : World) (b o : Nat) (ys : List Value) : Prop :=
  ∃ pre rest E fz, w.heap[b]? = some (.cells (pre ++ ys ++ rest).toArray E fz) ∧ pre.length = o

/-- Block b is a map that holds es. -/
def MapAt (w : World) (b : Nat) (es : List (Value × Value)) : Prop :=
  ∃ entries clock, w.heap[b]? = some (.map entries clock) ∧ entries.toList.map (fun e => (e.key, e.val)) = es

mutual
def Rep (w : World) (S : Nat → Prop) : D → Beta → Value → List Nat → Prop
  | .any, _, _, F => F = []
  | .v x, _, y, F => y = x ∧ F = []
  | .agg ds, β, y, F => ∃ ys : List Value, y = .agg ys.toArray ∧ RepL w S ds β ys F
  | .tup ds, β, y, F => ∃ ys : List Value, y = .tuple ys.toArray ∧ RepT w S ds β ys F
  | .sl n off ds, _, y, F => F = [] ∧ menL ds = [] ∧ ∃ a cap, y = .slice a n cap ∧ (n = 0 ∨ ∃ b o ys, a = some ⟨b, o + off, .none⟩ ∧ S b ∧ Seg w b o ys ∧ RepL w S ds noB ys [])
  | .pt ds off, _, y, F => F = [] ∧ menL ds = [] ∧ ∃ b o ys, y = .pointer (some ⟨b, o + off, .none⟩) ∧ S b ∧ Seg w b o ys ∧ RepL w S ds noB ys []
  | .fr sz n ds, _, y, F => ∃ a cap, y = .slice a n cap ∧ ds.length = n * sz ∧ menL ds = [] ∧
      ((a = .none ∧ n = 0 ∧ cap = 0 ∧ F = []) ∨
       ∃ b o pre ys rest E F', a = some ⟨b, o, .none⟩ ∧ n ≤ cap ∧ o + cap * sz ≤ (pre ++ ys ++ rest).length ∧
         w.heap[b]? = some (.cells (pre ++ ys ++ rest).toArray E (0, 0)) ∧ pre.length = o ∧ F = b :: F' ∧ RepL w S ds noB ys F')
  | .rs r off n, β, y, F => F = [] ∧ match β r with
      | .none => True
      | .nil => n = 0 ∧ off = 0 ∧ y = .slice .none 0 0
      | .blk b o sz m => ∃ cap, y = .slice (some ⟨b, o + off, .none⟩) n cap ∧ n ≤ cap ∧ o + off + cap * sz ≤ m
  | .rp r off, β, y, F => F = [] ∧ match β r with
      | .none => True
      | .nil => False
      | .blk b o _ _ => y = .pointer (some ⟨b, o + off, .none⟩)
  | .fn f caps, β, y, F => ∃ ys : List Value, y = .func (.func f) #[] ys.toArray ∧ RepL w S caps β ys F
  | .ifc t d, β, y, F => ∃ x, y = .iface t x ∧ Rep w S d β x F
  | .rm r, β, y, F => F = [] ∧ match β r with
      | .none => True
      | .nil => False
      | .blk b _ _ _ => y = .map (some b)
  | .bm es, _, y, F => F = [] ∧ ∃ b, y = .map (some b) ∧ S b ∧ MapAt w b es
  | .fb f caps, _, y, F => F = [] ∧ menL caps = [] ∧ ∃ ys : List Value, y = .func (.func f) #[] ys.toArray ∧ RepL w S caps noB ys []
def RepL (w : World) (S : Nat → Prop) : List D → Beta → List Value → List Nat → Prop
  | [], _, ys, F => ys = [] ∧ F = []
  | d :: ds, β, ys, F => ∃ y ys' F1 F2, ys = y :: ys' ∧ F = F1 ++ F2 ∧ y.oneCell' = true ∧ Rep w S d β y F1 ∧ RepL w S ds β ys' F2
def RepT (w : World) (S : Nat → Prop) : List D → Beta → List Value → List Nat → Prop
  | [], _, ys, F => ys = [] ∧ F = []
  | d :: ds, β, ys, F => ∃ y ys' F1 F2, ys = y :: ys' ∧ F = F1 ++ F2 ∧ Rep w S d β y F1 ∧ RepT w S ds β ys' F2
end

theorem RepL_length {w : World} {S : Nat → Prop} : ∀ {ds : List D} {β : Beta} {ys : List Value} {F : List Nat}, RepL w S ds β ys F → ys.length = ds.length
  | [], _, ys, _, h => by unfold RepL at h; simp [h.1]
  | d :: ds, β, ys, F, h => by
    unfold RepL at h
    obtain ⟨y, ys', F1, F2, rfl, rfl, _, _, h2⟩ := h
    simp [RepL_length h2]

theorem RepL_nil {w : World} {S : Nat → Prop} {β : Beta} : RepL w S [] β [] [] := by unfold RepL; exact ⟨rfl, rfl⟩

theorem RepL_cons {w : World} {S : Nat → Prop} {β : Beta} {d : D} {ds : List D} {y : Value} {ys : List Value} {F1 F2 : List Nat} (h1 : y.oneCell' = true) (h : Rep w S d β y F1) (h2 : RepL w S ds β ys F2) :
    RepL w S (d :: ds) β (y :: ys) (F1 ++ F2) := by
  unfold RepL; exact ⟨y, ys, F1, F2, rfl, rfl, h1, h, h2⟩

/-- What a representation hangs on: the blocks of S and of its footprint. -/
theorem Seg.mono {w w' : World} {b o : Nat} {ys : List Value} (h : w'.heap[b]? = w.heap[b]?) (hs : Seg w b o ys) : Seg w' b o ys := by
  unfold Seg at *; rw [h]; exact hs

mutual
theorem Rep.mono {w w' : World} {S S' : Nat → Prop} (hS : ∀ b, S b → w'.heap[b]? = w.heap[b]?) (hSS : ∀ b, S b → S' b) :
    ∀ (d : D) (β : Beta) (y : Value) (F : List Nat), (∀ b ∈ F, w'.heap[b]? = w.heap[b]?) → Rep w S d β y F → Rep w' S' d β y F
  | .any, _, _, _, _, h => by unfold Rep at *; exact h
  | .v x, _, _, _, _, h => by unfold Rep at *; exact h
  | .agg ds, β, y, F, hF, h => by
    unfold Rep at *; obtain ⟨ys, e, h⟩ := h; exact ⟨ys, e, RepL.mono hS hSS ds β ys F hF h⟩
  | .tup ds, β, y, F, hF, h => by
    unfold Rep at *; obtain ⟨ys, e, h⟩ := h; exact ⟨ys, e, RepT.mono hS hSS ds β ys F hF h⟩
  | .sl n off ds, β, y, F, hF, h => by
    unfold Rep at *
    obtain ⟨e, hmn, a, cap, e2, h⟩ := h
    refine ⟨e, hmn, a, cap, e2, ?_⟩
    rcases h with h | ⟨b, o, ys, e3, hs, hg, hr⟩
    · exact .inl h
    · exact .inr ⟨b, o, ys, e3, hSS _ hs, hg.mono (hS _ hs), RepL.mono hS hSS ds _ ys [] (by simp) hr⟩
  | .pt ds off, β, y, F, hF, h => by
    unfold Rep at *
    obtain ⟨e, hmn, b, o, ys, e3, hs, hg, hr⟩ := h
    exact ⟨e, hmn, b, o, ys, e3, hSS _ hs, hg.mono (hS _ hs), RepL.mono hS hSS ds _ ys [] (by simp) hr⟩
  | .fr sz n ds, β, y, F, hF, h => by
    unfold Rep at *
    obtain ⟨a, cap, e, hl, hmn, h⟩ := h
    refine ⟨a, cap, e, hl, hmn, ?_⟩
    rcases h with h | ⟨b, o, pre, ys, rest, E, F', e1, h1, h2, h3, h4, rfl, h5⟩
    · exact .inl h
    · exact .inr ⟨b, o, pre, ys, rest, E, F', e1, h1, h2, by rw [hF b (by simp)]; exact h3, h4, rfl, RepL.mono hS hSS ds _ ys F' (fun b hb => hF b (by simp [hb])) h5⟩
  | .rs r off n, β, y, F, hF, h => by unfold Rep at *; exact h
  | .rp r off, β, y, F, hF, h => by unfold Rep at *; exact h
  | .fn f caps, β, y, F, hF, h => by
    unfold Rep at *; obtain ⟨ys, e, h⟩ := h; exact ⟨ys, e, RepL.mono hS hSS caps β ys F hF h⟩
  | .ifc t d, β, y, F, hF, h => by
    unfold Rep at *; obtain ⟨x, e, h⟩ := h; exact ⟨x, e, Rep.mono hS hSS d β x F hF h⟩
  | .rm r, β, y, F, hF, h => by unfold Rep at *; exact h
  | .bm es, β, y, F, hF, h => by
    unfold Rep at *; obtain ⟨e, b, e2, hs, hm⟩ := h; exact ⟨e, b, e2, hSS _ hs, by unfold MapAt at *; rw [hS _ hs]; exact hm⟩
  | .fb f caps, β, y, F, hF, h => by
    unfold Rep at *; obtain ⟨e0, hm, ys, e, h⟩ := h; exact ⟨e0, hm, ys, e, RepL.mono hS hSS caps noB ys [] (by simp) h⟩
theorem RepL.mono {w w' : World} {S S' : Nat → Prop} (hS : ∀ b, S b → w'.heap[b]? = w.heap[b]?) (hSS : ∀ b, S b → S' b) :
    ∀ (ds : List D) (β : Beta) (ys : List Value) (F : List Nat), (∀ b ∈ F, w'.heap[b]? = w.heap[b]?) → RepL w S ds β ys F → RepL w' S' ds β ys F
  | [], _, _, _, _, h => by unfold RepL at *; exact h
  | d :: ds, β, ys, F, hF, h => by
    unfold RepL at *
    obtain ⟨y, ys', F1, F2, rfl, rfl, h0, h1, h2⟩ := h
    exact ⟨y, ys', F1, F2, rfl, rfl, h0, Rep.mono hS hSS d β y F1 (fun b hb => hF b (by simp [hb])) h1, RepL.mono hS hSS ds β ys' F2 (fun b hb => hF b (by simp [hb])) h2⟩
theorem RepT.mono {w w' : World} {S S' : Nat → Prop} (hS : ∀ b, S b → w'.heap[b]? = w.heap[b]?) (hSS : ∀ b, S b → S' b) :
    ∀ (ds : List D) (β : Beta) (ys : List Value) (F : List Nat), (∀ b ∈ F, w'.heap[b]? = w.heap[b]?) → RepT w S ds β ys F → RepT w' S' ds β ys F
  | [], _, _, _, _, h => by unfold RepT at *; exact h
  | d :: ds, β, ys, F, hF, h => by
    unfold RepT at *
    obtain ⟨y, ys', F1, F2, rfl, rfl, h1, h2⟩ := h
    exact ⟨y, ys', F1, F2, rfl, rfl, Rep.mono hS hSS d β y F1 (fun b hb => hF b (by simp [hb])) h1, RepT.mono hS hSS ds β ys' F2 (fun b hb => hF b (by simp [hb])) h2⟩
end

mutual
theorem Rep.beta {w : World} {S : Nat → Prop} {β β' : Beta} : ∀ (d : D) (y : Value) (F : List Nat), (∀ r ∈ d.men, β' r = β r) → Rep w S d β y F → Rep w S d β' y F
  | .any, _, _, _, h => by unfold Rep at *; exact h
  | .v x, _, _, _, h => by unfold Rep at *; exact h
  | .agg ds, y, F, hm, h => by
    unfold Rep at *; obtain ⟨ys, e, h⟩ := h; exact ⟨ys, e, RepL.beta ds ys F (by unfold D.men at hm; exact hm) h⟩
  | .tup ds, y, F, hm, h => by
    unfold Rep at *; obtain ⟨ys, e, h⟩ := h; exact ⟨ys, e, RepT.beta ds ys F (by unfold D.men at hm; exact hm) h⟩
  | .sl n off ds, y, F, hm, h => by unfold Rep at *; exact h
  | .pt ds off, y, F, hm, h => by unfold Rep at *; exact h
  | .fr sz n ds, y, F, hm, h => by unfold Rep at *; exact h
  | .rs r off n, y, F, hm, h => by unfold Rep at *; rw [hm r (by simp [D.men])]; exact h
  | .rp r off, y, F, hm, h => by unfold Rep at *; rw [hm r (by simp [D.men])]; exact h
  | .fn f caps, y, F, hm, h => by
    unfold Rep at *; obtain ⟨ys, e, h⟩ := h; exact ⟨ys, e, RepL.beta caps ys F (by unfold D.men at hm; exact hm) h⟩
  | .ifc t d, y, F, hm, h => by
    unfold Rep at *; obtain ⟨x, e, h⟩ := h; exact ⟨x, e, Rep.beta d x F (by unfold D.men at hm; exact hm) h⟩
  | .rm r, y, F, hm, h => by unfold Rep at *; rw [hm r (by simp [D.men])]; exact h
  | .bm es, y, F, hm, h => by unfold Rep at *; exact h
  | .fb f caps, y, F, hm, h => by unfold Rep at *; exact h
theorem RepL.beta {w : World} {S : Nat → Prop} {β β' : Beta} : ∀ (ds : List D) (ys : List Value) (F : List Nat), (∀ r ∈ menL ds, β' r = β r) → RepL w S ds β ys F → RepL w S ds β' ys F
  | [], _, _, _, h => by unfold RepL at *; exact h
  | d :: ds, ys, F, hm, h => by
    unfold RepL at *
    obtain ⟨y, ys', F1, F2, e1, e2, h0, h1, h2⟩ := h
    unfold menL at hm
    exact ⟨y, ys', F1, F2, e1, e2, h0, Rep.beta d y F1 (fun r hr => hm r (by simp [hr])) h1, RepL.beta ds ys' F2 (fun r hr => hm r (by simp [hr])) h2⟩
theorem RepT.beta {w : World} {S : Nat → Prop} {β β' : Beta} : ∀ (ds : List D) (ys : List Value) (F : List Nat), (∀ r ∈ menL ds, β' r = β r) → RepT w S ds β ys F → RepT w S ds β' ys F
  | [], _, _, _, h => by unfold RepT at *; exact h
  | d :: ds, ys, F, hm, h => by
    unfold RepT at *
    obtain ⟨y, ys', F1, F2, e1, e2, h1, h2⟩ := h
    unfold menL at hm
    exact ⟨y, ys', F1, F2, e1, e2, Rep.beta d y F1 (fun r hr => hm r (by simp [hr])) h1, RepT.beta ds ys' F2 (fun r hr => hm r (by simp [hr])) h2⟩
end

/-! ### lists of representations -/
section
variable {w : World} {S : Nat → Prop} {β : Beta}

theorem RepL_append_mk {ds ds' : List D} {ys ys' : List Value} {F F' : List Nat} (h : RepL w S ds β ys F) (h' : RepL w S ds' β ys' F') :
    RepL w S (ds ++ ds') β (ys ++ ys') (F ++ F') := by
  induction ds generalizing ys F with
  | nil => unfold RepL at h; obtain ⟨rfl, rfl⟩ := h; simpa using h'
  | cons d ds ih =>
    unfold RepL at h
    obtain ⟨y, ys1, F1, F2, rfl, rfl, h0, h1, h2⟩ := h
    have := RepL_cons h0 h1 (ih h2)
    simpa using this

theorem RepL_append {ds ds' : List D} {ys : List Value} {F : List Nat} (h : RepL w S (ds ++ ds') β ys F) :
    ∃ ys1 ys2 F1 F2, ys = ys1 ++ ys2 ∧ F = F1 ++ F2 ∧ RepL w S ds β ys1 F1 ∧ RepL w S ds' β ys2 F2 := by
  induction ds generalizing ys F with
  | nil => exact ⟨[], ys, [], F, rfl, rfl, RepL_nil, by simpa using h⟩
  | cons d ds ih =>
    rw [List.cons_append] at h
    unfold RepL at h
    obtain ⟨y, ys1, F1, F2, rfl, rfl, h0, h1, h2⟩ := h
    obtain ⟨ya, yb, Fa, Fb, rfl, rfl, h3, h4⟩ := ih h2
    exact ⟨y :: ya, yb, F1 ++ Fa, Fb, by simp, by simp, RepL_cons h0 h1 h3, h4⟩

theorem RepL_nilF_get {ds : List D} {ys : List Value} (h : RepL w S ds β ys []) {i : Nat} {d : D} (hd : ds[i]? = some d) :
    ∃ y, ys[i]? = some y ∧ y.oneCell' = true ∧ Rep w S d β y [] := by
  induction ds generalizing ys i with
  | nil => simp at hd
  | cons d' ds ih =>
    unfold RepL at h
    obtain ⟨y, ys1, F1, F2, rfl, e, h0, h1, h2⟩ := h
    simp only [List.nil_eq, List.append_eq_nil_iff] at e
    obtain ⟨rfl, rfl⟩ := e
    cases i with
    | zero => simp at hd; subst hd; exact ⟨y, by simp, h0, h1⟩
    | succ i => simpa using ih h2 (by simpa using hd)

theorem RepL_mid {ds : List D} {ys : List Value} {F : List Nat} (h : RepL w S ds β ys F) {i : Nat} {d : D} (hd : ds[i]? = some d) :
    ∃ ya y yb Fa Fd Fb, ys = ya ++ y :: yb ∧ ya.length = i ∧ F = Fa ++ Fd ++ Fb ∧ y.oneCell' = true ∧ Rep w S d β y Fd ∧ RepL w S (ds.take i) β ya Fa ∧ RepL w S (ds.drop (i + 1)) β yb Fb := by
  have hi : i < ds.length := (List.getElem?_eq_some_iff.1 hd).1
  have e : ds = ds.take i ++ d :: ds.drop (i + 1) := by
    rw [List.getElem?_eq_some_iff] at hd
    obtain ⟨_, rfl⟩ := hd
    simp
  rw [e] at h
  obtain ⟨ya, y2, Fa, F2, rfl, rfl, h1, h2⟩ := RepL_append h
  unfold RepL at h2
  obtain ⟨y, yb, Fd, Fb, rfl, rfl, h0, h3, h4⟩ := h2
  exact ⟨ya, y, yb, Fa, Fd, Fb, rfl, by rw [RepL_length h1]; simp; omega, by simp, h0, h3, h1, h4⟩

theorem RepL_put {ds : List D} {ya yb : List Value} {y : Value} {Fa Fd Fb : List Nat} {i : Nat} {d : D} (hi : i < ds.length)
    (h1 : RepL w S (ds.take i) β ya Fa) (h0 : y.oneCell' = true) (h : Rep w S d β y Fd) (h2 : RepL w S (ds.drop (i + 1)) β yb Fb) :
    RepL w S (ds.set i d) β (ya ++ y :: yb) (Fa ++ Fd ++ Fb) := by
  rw [List.set_eq_take_append_cons_drop, if_pos hi, List.append_assoc]
  exact RepL_append_mk h1 (RepL_cons h0 h h2)
end

end Go.Gx
