import Derived.Calls
import Derived.Orders
import Derived.Below
import Derived.Laws.Sem
import Derived.Laws.Cells
import Derived.Laws.CopyRow
import Derived.Laws.NewBlocks
import Derived.IntWalk
import Derived.Great.FillDense
import Derived.Great.BuildSlice
import Derived.Laws.AppendOwn
import Derived.MapKept
import Derived.Laws.IdiomStrings
import Derived.LoopN
namespace Go.Gx
inductive D where
  | any
  | v (x : Value)
  | agg (ds : List D)
  | tup (ds : List D)
  | sl (n off : Nat) (ds : List D)
  | pt (ds : List D) (off : Nat)
  | fr (sz n : Nat) (ds : List D)
  | rs (r off n : Nat)
  | rp (r off : Nat)
  | fn (f : FuncId) (caps : List D)
  | ifc (t : TypeId) (d : D)
  | rm (r : Nat)
  | bm (es : List (Value × Value))
  | fb (f : FuncId) (caps : List D)
  | fm (f : FuncId) (first : List D)
  | fc (f : FuncId) (first : List D)
inductive RefB where
  | none
  | nil
  | blk (b o sz m : Nat)
def fzOf (n : Nat) : Nat → Nat × Nat
  | 0 => (0, 0)
  | k + 1 => (n + k, n + k + 1)
mutual
def D.men : D → List Nat
  | .agg ds => menL ds
  | .tup ds => menL ds
  | .rs r _ _ => [r]
  | .rp r _ => [r]
  | .rm r => [r]
  | .fn _ caps => menL caps
  | .fm _ caps => menL caps
  | .ifc _ d => d.men
  | _ => []
def menL : List D → List Nat
  | [] => []
  | d :: ds => d.men ++ menL ds
end
abbrev Beta := Nat → RefB
def noB : Beta := fun _ => .none
def Seg (w : World) (b o : Nat) (ys : List Value) : Prop :=
  ∃ pre rest E fz, w.heap[b]? = some (.cells (pre ++ ys ++ rest).toArray E fz) ∧ pre.length = o
def MapAt (w : World) (b : Nat) (es : List (Value × Value)) : Prop :=
  ∃ entries clock, w.heap[b]? = some (.map entries clock) ∧ entries.toList.map (fun e => (e.key, e.val)) = es
mutual
def Rep (w : World) (S : Nat → Prop) : D → Beta → Value → List Nat → Prop
  | .any, _, _, F => F = []
  | .v x, _, y, F => y = x ∧ F = []
  | .agg ds, β, y, F => ∃ ys : List Value, y = .agg ys.toArray ∧ RepL w S ds β ys F
  | .tup ds, β, y, F => ∃ ys : List Value, y = .tuple ys.toArray ∧ RepT w S ds β ys F
  | .sl n off ds, _, y, F => F = [] ∧ menL ds = [] ∧ ∃ a cap, y = .slice a n cap ∧ n ≤ cap ∧ (n = 0 ∨ ∃ b o ys, a = some ⟨b, o + off, .none⟩ ∧ S b ∧ Seg w b o ys ∧ RepL w S ds noB ys [])
  | .pt ds off, _, y, F => F = [] ∧ menL ds = [] ∧ ∃ b o ys, y = .pointer (some ⟨b, o + off, .none⟩) ∧ S b ∧ Seg w b o ys ∧ RepL w S ds noB ys []
  | .fr sz n ds, _, y, F => ∃ a cap, y = .slice a n cap ∧ ds.length = n * sz ∧ menL ds = [] ∧
      ((a = .none ∧ n = 0 ∧ cap = 0 ∧ F = []) ∨
       ∃ b o pre ys rest, ∃ E : TypeId × Nat, ∃ F', a = some ⟨b, o, .none⟩ ∧ n ≤ cap ∧ o + cap * sz ≤ (pre ++ ys ++ rest).length ∧
         w.heap[b]? = some (.cells (pre ++ ys ++ rest).toArray E.1 (fzOf (pre ++ ys ++ rest).length E.2)) ∧ pre.length = o ∧ F = b :: F' ∧ RepL w S ds noB ys F')
  | .rs r off n, β, y, F => F = [] ∧ match β r with
      | .none => True
      | .nil => n = 0 ∧ off = 0 ∧ y = .slice .none 0 0
      | .blk b o sz m => ∃ cap, y = .slice (some ⟨b, o + off, .none⟩) n cap ∧ n ≤ cap ∧ o + off + cap * sz ≤ m
  | .rp r off, β, y, F => F = [] ∧ match β r with
      | .none => True
      | .nil => False
      | .blk b o _ _ => y = .pointer (some ⟨b, o + off, .none⟩)
  | .fn f caps, β, y, F => ∃ ys : List Value, y = .func (.func f) #[] ys.toArray ∧ RepL w S caps β ys F
  | .ifc t d, β, y, F => ∃ x, y = .iface t x ∧ Rep w S d β x F
  | .rm r, β, y, F => F = [] ∧ match β r with
      | .none => True
      | .nil => False
      | .blk b _ _ _ => y = .map (some b)
  | .bm es, _, y, F => F = [] ∧ ∃ b, y = .map (some b) ∧ S b ∧ MapAt w b es
  | .fb f caps, _, y, F => F = [] ∧ menL caps = [] ∧ ∃ ys : List Value, y = .func (.func f) #[] ys.toArray ∧ RepL w S caps noB ys []
  | .fm f caps, β, y, F => ∃ ys : List Value, y = .func (.func f) ys.toArray #[] ∧ RepL w S caps β ys F
  | .fc f caps, _, y, F => F = [] ∧ menL caps = [] ∧ ∃ ys : List Value, y = .func (.func f) ys.toArray #[] ∧ RepL w S caps noB ys []
def RepL (w : World) (S : Nat → Prop) : List D → Beta → List Value → List Nat → Prop
  | [], _, ys, F => ys = [] ∧ F = []
  | d :: ds, β, ys, F => ∃ y ys' F1 F2, ys = y :: ys' ∧ F = F1 ++ F2 ∧ y.oneCell' = true ∧ Rep w S d β y F1 ∧ RepL w S ds β ys' F2
def RepT (w : World) (S : Nat → Prop) : List D → Beta → List Value → List Nat → Prop
  | [], _, ys, F => ys = [] ∧ F = []
  | d :: ds, β, ys, F => ∃ y ys' F1 F2, ys = y :: ys' ∧ F = F1 ++ F2 ∧ Rep w S d β y F1 ∧ RepT w S ds β ys' F2
end
theorem RepL_length {w : World} {S : Nat → Prop} : ∀ {ds : List D} {β : Beta} {ys : List Value} {F : List Nat}, RepL w S ds β ys F → ys.length = ds.length
  | [], _, ys, _, h => by unfold RepL at h; simp [h.1]
  | d :: ds, β, ys, F, h => by
    unfold RepL at h
    obtain ⟨y, ys', F1, F2, rfl, rfl, _, _, h2⟩ := h
    simp [RepL_length h2]
theorem RepL_nil {w : World} {S : Nat → Prop} {β : Beta} : RepL w S [] β [] [] := by unfold RepL; exact ⟨rfl, rfl⟩
theorem RepL_cons {w : World} {S : Nat → Prop} {β : Beta} {d : D} {ds : List D} {y : Value} {ys : List Value} {F1 F2 : List Nat} (h1 : y.oneCell' = true) (h : Rep w S d β y F1) (h2 : RepL w S ds β ys F2) :
    RepL w S (d :: ds) β (y :: ys) (F1 ++ F2) := by
  unfold RepL; exact ⟨y, ys, F1, F2, rfl, rfl, h1, h, h2⟩
theorem Seg.mono {w w' : World} {b o : Nat} {ys : List Value} (h : w'.heap[b]? = w.heap[b]?) (hs : Seg w b o ys) : Seg w' b o ys := by
  unfold Seg at *; rw [h]; exact hs
mutual
theorem Rep.mono {w w' : World} {S S' : Nat → Prop} (hS : ∀ b, S b → w'.heap[b]? = w.heap[b]?) (hSS : ∀ b, S b → S' b) :
    ∀ (d : D) (β : Beta) (y : Value) (F : List Nat), (∀ b ∈ F, w'.heap[b]? = w.heap[b]?) → Rep w S d β y F → Rep w' S' d β y F
  | .any, _, _, _, _, h => by unfold Rep at *; exact h
  | .v x, _, _, _, _, h => by unfold Rep at *; exact h
  | .agg ds, β, y, F, hF, h => by
    unfold Rep at *; obtain ⟨ys, e, h⟩ := h; exact ⟨ys, e, RepL.mono hS hSS ds β ys F hF h⟩
  | .tup ds, β, y, F, hF, h => by
    unfold Rep at *; obtain ⟨ys, e, h⟩ := h; exact ⟨ys, e, RepT.mono hS hSS ds β ys F hF h⟩
  | .sl n off ds, β, y, F, hF, h => by
    unfold Rep at *
    obtain ⟨e, hmn, a, cap, e2, hcap, h⟩ := h
    refine ⟨e, hmn, a, cap, e2, hcap, ?_⟩
    rcases h with h | ⟨b, o, ys, e3, hs, hg, hr⟩
    · exact .inl h
    · exact .inr ⟨b, o, ys, e3, hSS _ hs, hg.mono (hS _ hs), RepL.mono hS hSS ds _ ys [] (by simp) hr⟩
  | .pt ds off, β, y, F, hF, h => by
    unfold Rep at *
    obtain ⟨e, hmn, b, o, ys, e3, hs, hg, hr⟩ := h
    exact ⟨e, hmn, b, o, ys, e3, hSS _ hs, hg.mono (hS _ hs), RepL.mono hS hSS ds _ ys [] (by simp) hr⟩
  | .fr sz n ds, β, y, F, hF, h => by
    unfold Rep at *
    obtain ⟨a, cap, e, hl, hmn, h⟩ := h
    refine ⟨a, cap, e, hl, hmn, ?_⟩
    rcases h with h | ⟨b, o, pre, ys, rest, E, F', e1, h1, h2, h3, h4, rfl, h5⟩
    · exact .inl h
    · exact .inr ⟨b, o, pre, ys, rest, E, F', e1, h1, h2, by rw [hF b (by simp)]; exact h3, h4, rfl, RepL.mono hS hSS ds _ ys F' (fun b hb => hF b (by simp [hb])) h5⟩
  | .rs r off n, β, y, F, hF, h => by unfold Rep at *; exact h
  | .rp r off, β, y, F, hF, h => by unfold Rep at *; exact h
  | .fn f caps, β, y, F, hF, h => by
    unfold Rep at *; obtain ⟨ys, e, h⟩ := h; exact ⟨ys, e, RepL.mono hS hSS caps β ys F hF h⟩
  | .ifc t d, β, y, F, hF, h => by
    unfold Rep at *; obtain ⟨x, e, h⟩ := h; exact ⟨x, e, Rep.mono hS hSS d β x F hF h⟩
  | .rm r, β, y, F, hF, h => by unfold Rep at *; exact h
  | .bm es, β, y, F, hF, h => by
    unfold Rep at *; obtain ⟨e, b, e2, hs, hm⟩ := h; exact ⟨e, b, e2, hSS _ hs, by unfold MapAt at *; rw [hS _ hs]; exact hm⟩
  | .fb f caps, β, y, F, hF, h => by
    unfold Rep at *; obtain ⟨e0, hm, ys, e, h⟩ := h; exact ⟨e0, hm, ys, e, RepL.mono hS hSS caps noB ys [] (by simp) h⟩
  | .fm f caps, β, y, F, hF, h => by
    unfold Rep at *; obtain ⟨ys, e, h⟩ := h; exact ⟨ys, e, RepL.mono hS hSS caps β ys F hF h⟩
  | .fc f caps, β, y, F, hF, h => by
    unfold Rep at *; obtain ⟨e0, hm, ys, e, h⟩ := h; exact ⟨e0, hm, ys, e, RepL.mono hS hSS caps noB ys [] (by simp) h⟩
theorem RepL.mono {w w' : World} {S S' : Nat → Prop} (hS : ∀ b, S b → w'.heap[b]? = w.heap[b]?) (hSS : ∀ b, S b → S' b) :
    ∀ (ds : List D) (β : Beta) (ys : List Value) (F : List Nat), (∀ b ∈ F, w'.heap[b]? = w.heap[b]?) → RepL w S ds β ys F → RepL w' S' ds β ys F
  | [], _, _, _, _, h => by unfold RepL at *; exact h
  | d :: ds, β, ys, F, hF, h => by
    unfold RepL at *
    obtain ⟨y, ys', F1, F2, rfl, rfl, h0, h1, h2⟩ := h
    exact ⟨y, ys', F1, F2, rfl, rfl, h0, Rep.mono hS hSS d β y F1 (fun b hb => hF b (by simp [hb])) h1, RepL.mono hS hSS ds β ys' F2 (fun b hb => hF b (by simp [hb])) h2⟩
theorem RepT.mono {w w' : World} {S S' : Nat → Prop} (hS : ∀ b, S b → w'.heap[b]? = w.heap[b]?) (hSS : ∀ b, S b → S' b) :
    ∀ (ds : List D) (β : Beta) (ys : List Value) (F : List Nat), (∀ b ∈ F, w'.heap[b]? = w.heap[b]?) → RepT w S ds β ys F → RepT w' S' ds β ys F
  | [], _, _, _, _, h => by unfold RepT at *; exact h
  | d :: ds, β, ys, F, hF, h => by
    unfold RepT at *
    obtain ⟨y, ys', F1, F2, rfl, rfl, h1, h2⟩ := h
    exact ⟨y, ys', F1, F2, rfl, rfl, Rep.mono hS hSS d β y F1 (fun b hb => hF b (by simp [hb])) h1, RepT.mono hS hSS ds β ys' F2 (fun b hb => hF b (by simp [hb])) h2⟩
end
mutual
theorem Rep.beta {w : World} {S : Nat → Prop} {β β' : Beta} : ∀ (d : D) (y : Value) (F : List Nat), (∀ r ∈ d.men, β' r = β r) → Rep w S d β y F → Rep w S d β' y F
  | .any, _, _, _, h => by unfold Rep at *; exact h
  | .v x, _, _, _, h => by unfold Rep at *; exact h
  | .agg ds, y, F, hm, h => by
    unfold Rep at *; obtain ⟨ys, e, h⟩ := h; exact ⟨ys, e, RepL.beta ds ys F (by unfold D.men at hm; exact hm) h⟩
  | .tup ds, y, F, hm, h => by
    unfold Rep at *; obtain ⟨ys, e, h⟩ := h; exact ⟨ys, e, RepT.beta ds ys F (by unfold D.men at hm; exact hm) h⟩
  | .sl n off ds, y, F, hm, h => by unfold Rep at *; exact h
  | .pt ds off, y, F, hm, h => by unfold Rep at *; exact h
  | .fr sz n ds, y, F, hm, h => by unfold Rep at *; exact h
  | .rs r off n, y, F, hm, h => by unfold Rep at *; rw [hm r (by simp [D.men])]; exact h
  | .rp r off, y, F, hm, h => by unfold Rep at *; rw [hm r (by simp [D.men])]; exact h
  | .fn f caps, y, F, hm, h => by
    unfold Rep at *; obtain ⟨ys, e, h⟩ := h; exact ⟨ys, e, RepL.beta caps ys F (by unfold D.men at hm; exact hm) h⟩
  | .ifc t d, y, F, hm, h => by
    unfold Rep at *; obtain ⟨x, e, h⟩ := h; exact ⟨x, e, Rep.beta d x F (by unfold D.men at hm; exact hm) h⟩
  | .rm r, y, F, hm, h => by unfold Rep at *; rw [hm r (by simp [D.men])]; exact h
  | .bm es, y, F, hm, h => by unfold Rep at *; exact h
  | .fb f caps, y, F, hm, h => by unfold Rep at *; exact h
  | .fm f caps, y, F, hm, h => by
    unfold Rep at *; obtain ⟨ys, e, h⟩ := h; exact ⟨ys, e, RepL.beta caps ys F (by unfold D.men at hm; exact hm) h⟩
  | .fc f caps, y, F, hm, h => by unfold Rep at *; exact h
theorem RepL.beta {w : World} {S : Nat → Prop} {β β' : Beta} : ∀ (ds : List D) (ys : List Value) (F : List Nat), (∀ r ∈ menL ds, β' r = β r) → RepL w S ds β ys F → RepL w S ds β' ys F
  | [], _, _, _, h => by unfold RepL at *; exact h
  | d :: ds, ys, F, hm, h => by
    unfold RepL at *
    obtain ⟨y, ys', F1, F2, e1, e2, h0, h1, h2⟩ := h
    unfold menL at hm
    exact ⟨y, ys', F1, F2, e1, e2, h0, Rep.beta d y F1 (fun r hr => hm r (by simp [hr])) h1, RepL.beta ds ys' F2 (fun r hr => hm r (by simp [hr])) h2⟩
theorem RepT.beta {w : World} {S : Nat → Prop} {β β' : Beta} : ∀ (ds : List D) (ys : List Value) (F : List Nat), (∀ r ∈ menL ds, β' r = β r) → RepT w S ds β ys F → RepT w S ds β' ys F
  | [], _, _, _, h => by unfold RepT at *; exact h
  | d :: ds, ys, F, hm, h => by
    unfold RepT at *
    obtain ⟨y, ys', F1, F2, e1, e2, h1, h2⟩ := h
    unfold menL at hm
    exact ⟨y, ys', F1, F2, e1, e2, Rep.beta d y F1 (fun r hr => hm r (by simp [hr])) h1, RepT.beta ds ys' F2 (fun r hr => hm r (by simp [hr])) h2⟩
end
section
variable {w : World} {S : Nat → Prop} {β : Beta}
theorem RepL_append_mk {ds ds' : List D} {ys ys' : List Value} {F F' : List Nat} (h : RepL w S ds β ys F) (h' : RepL w S ds' β ys' F') :
    RepL w S (ds ++ ds') β (ys ++ ys') (F ++ F') := by
  induction ds generalizing ys F with
  | nil => unfold RepL at h; obtain ⟨rfl, rfl⟩ := h; simpa using h'
  | cons d ds ih =>
    unfold RepL at h
    obtain ⟨y, ys1, F1, F2, rfl, rfl, h0, h1, h2⟩ := h
    have := RepL_cons h0 h1 (ih h2)
    simpa using this
theorem RepL_append {ds ds' : List D} {ys : List Value} {F : List Nat} (h : RepL w S (ds ++ ds') β ys F) :
    ∃ ys1 ys2 F1 F2, ys = ys1 ++ ys2 ∧ F = F1 ++ F2 ∧ RepL w S ds β ys1 F1 ∧ RepL w S ds' β ys2 F2 := by
  induction ds generalizing ys F with
  | nil => exact ⟨[], ys, [], F, rfl, rfl, RepL_nil, by simpa using h⟩
  | cons d ds ih =>
    rw [List.cons_append] at h
    unfold RepL at h
    obtain ⟨y, ys1, F1, F2, rfl, rfl, h0, h1, h2⟩ := h
    obtain ⟨ya, yb, Fa, Fb, rfl, rfl, h3, h4⟩ := ih h2
    exact ⟨y :: ya, yb, F1 ++ Fa, Fb, by simp, by simp, RepL_cons h0 h1 h3, h4⟩
theorem RepL_nilF_get {ds : List D} {ys : List Value} (h : RepL w S ds β ys []) {i : Nat} {d : D} (hd : ds[i]? = some d) :
    ∃ y, ys[i]? = some y ∧ y.oneCell' = true ∧ Rep w S d β y [] := by
  induction ds generalizing ys i with
  | nil => simp at hd
  | cons d' ds ih =>
    unfold RepL at h
    obtain ⟨y, ys1, F1, F2, rfl, e, h0, h1, h2⟩ := h
    simp only [List.nil_eq, List.append_eq_nil_iff] at e
    obtain ⟨rfl, rfl⟩ := e
    cases i with
    | zero => simp at hd; subst hd; exact ⟨y, by simp, h0, h1⟩
    | succ i => simpa using ih h2 (by simpa using hd)
theorem RepL_mid {ds : List D} {ys : List Value} {F : List Nat} (h : RepL w S ds β ys F) {i : Nat} {d : D} (hd : ds[i]? = some d) :
    ∃ ya y yb Fa Fd Fb, ys = ya ++ y :: yb ∧ ya.length = i ∧ F = Fa ++ Fd ++ Fb ∧ y.oneCell' = true ∧ Rep w S d β y Fd ∧ RepL w S (ds.take i) β ya Fa ∧ RepL w S (ds.drop (i + 1)) β yb Fb := by
  have hi : i < ds.length := (List.getElem?_eq_some_iff.1 hd).1
  have e : ds = ds.take i ++ d :: ds.drop (i + 1) := by
    rw [List.getElem?_eq_some_iff] at hd
    obtain ⟨_, rfl⟩ := hd
    simp
  rw [e] at h
  obtain ⟨ya, y2, Fa, F2, rfl, rfl, h1, h2⟩ := RepL_append h
  unfold RepL at h2
  obtain ⟨y, yb, Fd, Fb, rfl, rfl, h0, h3, h4⟩ := h2
  exact ⟨ya, y, yb, Fa, Fd, Fb, rfl, by rw [RepL_length h1]; simp; omega, by simp, h0, h3, h1, h4⟩
theorem RepL_put {ds : List D} {ya yb : List Value} {y : Value} {Fa Fd Fb : List Nat} {i : Nat} {d : D} (hi : i < ds.length)
    (h1 : RepL w S (ds.take i) β ya Fa) (h0 : y.oneCell' = true) (h : Rep w S d β y Fd) (h2 : RepL w S (ds.drop (i + 1)) β yb Fb) :
    RepL w S (ds.set i d) β (ya ++ y :: yb) (Fa ++ Fd ++ Fb) := by
  rw [List.set_eq_take_append_cons_drop, if_pos hi, List.append_assoc]
  exact RepL_append_mk h1 (RepL_cons h0 h h2)
end
end Go.Gx
namespace Go.Gx
inductive Root where
  | arr (sz : Nat) (cells : List D) (refs : List Nat)
  | mp (es : List (Value × Value))
def Beta.res (β : Beta) (refs : List Nat) : Beta := fun r => if refs.contains r then β r else .none
def RootRep (w : World) (S : Nat → Prop) (β : Beta) : Root → RefB → List Nat → Prop
  | .arr _ cells _, .nil, F => cells = [] ∧ F = []
  | .arr sz cells refs, .blk b o sz' m, F => sz' = sz ∧ ∃ pre ys rest, ∃ E : TypeId × Nat, ∃ F', w.heap[b]? = some (.cells (pre ++ ys ++ rest).toArray E.1 (fzOf (pre ++ ys ++ rest).length E.2)) ∧
      m = (pre ++ ys ++ rest).length ∧ pre.length = o ∧ F = b :: F' ∧ RepL w S cells (β.res refs) ys F' ∧ ∀ m ∈ menL cells, refs.contains m = true
  | .mp es, .blk b _ _ _, F => F = [b] ∧ MapAt w b es
  | _, _, _ => False
inductive Ent where
  | d (x : D)
  | r (x : Root)
abbrev X := Nat → Option Ent
abbrev Wr := List (Nat × Option Ent)
def upd : X → Wr → X
  | g, [] => g
  | g, (k, e) :: r => fun q => if q = k then e else upd g r q
structure Ctx where
  N : Nat
  np : Nat
  w0 : World
  S0 : Nat → Prop
  F0 : Nat → Prop
  B0 : Beta
def noF : Nat → Prop := fun _ => False
structure Ext (w0 w : World) (F0 : Nat → Prop) : Prop where
  os : w.os = w0.os
  tape : w.tape = w0.tape
  output : w.output = w0.output
  size : w0.heap.size ≤ w.heap.size
  kept : ∀ b, b < w0.heap.size → ¬ F0 b → w.heap[b]? = w0.heap[b]?
structure Inv (Γ : Ctx) (g : X) (a : Act) (w : World) (S : Nat → Prop) (β : Beta) (Fs : Nat → List Nat) : Prop where
  defers : a.defers = []
  size : a.tmps.size = Γ.N
  slots : ∀ t d, g (2 * t) = some (.d d) → Rep w S d β (a.tmps.getD t undef) []
  roots : ∀ r x, g (2 * r + 1) = some (.r x) → RootRep w S β x (β r) (Fs r)
  noroot : ∀ r, (∀ x, g (2 * r + 1) ≠ some (.r x)) → Fs r = []
  nodup : ∀ r, (Fs r).Nodup
  disj : ∀ r r', r ≠ r' → ∀ b ∈ Fs r, b ∉ Fs r'
  own : ∀ r, ∀ b ∈ Fs r, ¬ S b ∧ b < w.heap.size ∧ (Γ.F0 b ∨ Γ.w0.heap.size ≤ b)
  s0 : ∀ b, Γ.S0 b → S b
  sOk : ∀ b, S b → b < w.heap.size ∧ (Γ.S0 b ∨ Γ.F0 b ∨ Γ.w0.heap.size ≤ b)
  ext : Ext Γ.w0 w Γ.F0
  fix : ∀ r, r < Γ.np → β r = Γ.B0 r
def Sat (Γ : Ctx) (g : X) (a : Act) (w : World) : Prop := ∃ S β Fs, Inv Γ g a w S β Fs
theorem Ext.refl (w : World) (F : Nat → Prop) : Ext w w F := ⟨rfl, rfl, rfl, Nat.le_refl _, fun _ _ _ => rfl⟩
theorem RootRep.mono {w w' : World} {S S' : Nat → Prop} {β : Beta} {x : Root} {rb : RefB} {F : List Nat} (hS : ∀ b, S b → w'.heap[b]? = w.heap[b]?) (hSS : ∀ b, S b → S' b)
    (hF : ∀ b ∈ F, w'.heap[b]? = w.heap[b]?) (h : RootRep w S β x rb F) : RootRep w' S' β x rb F := by
  cases x with
  | arr sz cells refs =>
    cases rb with
    | none => exact h
    | nil => exact h
    | blk b o sz' m =>
      obtain ⟨e, pre, ys, rest, E, F', h1, h2, h3, rfl, h4, h5⟩ := h
      exact ⟨e, pre, ys, rest, E, F', by rw [hF b (by simp)]; exact h1, h2, h3, rfl, RepL.mono hS hSS cells _ ys F' (fun b hb => hF b (by simp [hb])) h4, h5⟩
  | mp es =>
    cases rb with
    | none => exact h
    | nil => exact h
    | blk b o sz' m =>
      obtain ⟨rfl, h1⟩ := h
      exact ⟨rfl, by unfold MapAt at *; rw [hF b (by simp)]; exact h1⟩
theorem getD_put (a : Act) (t q : Nat) (y : Value) (h : t < a.tmps.size) : (a.put (some t) y).tmps.getD q undef = if q = t then y else a.tmps.getD q undef := by
  simp only [Act.put, Array.getD_eq_getD_getElem?, Array.getElem?_setIfInBounds]
  by_cases e : q = t
  · subst e; simp [h]
  · simp [e, Ne.symm e]
theorem upd_one (g : X) (k : Nat) (e : Option Ent) (q : Nat) : upd g [(k, e)] q = if q = k then e else g q := rfl
theorem Inv.put {Γ : Ctx} {g : X} {a : Act} {w : World} {S : Nat → Prop} {β : Beta} {Fs : Nat → List Nat} {t : Nat} {d : D} {y : Value}
    (h : Inv Γ g a w S β Fs) (ht : t < Γ.N) (hd : Rep w S d β y []) : Inv Γ (upd g [(2 * t, some (.d d))]) (a.put (some t) y) w S β Fs where
  defers := h.defers
  size := by simp [Act.put, h.size]
  slots := fun q d' hq => by
    rw [getD_put a t q y (by rw [h.size]; exact ht)]
    rw [upd_one] at hq
    by_cases e : q = t
    · subst e; simp at hq; subst hq; simpa using hd
    · rw [if_neg (by omega)] at hq; rw [if_neg e]; exact h.slots q d' hq
  roots := fun r x hr => h.roots r x (by rw [upd_one, if_neg (by omega)] at hr; exact hr)
  noroot := fun r hr => h.noroot r (fun x hx => hr x (by rw [upd_one, if_neg (by omega)]; exact hx))
  nodup := h.nodup
  disj := h.disj
  own := h.own
  s0 := h.s0
  sOk := h.sOk
  ext := h.ext
  fix := h.fix
theorem Inv.put_any {Γ : Ctx} {g : X} {a : Act} {w : World} {S : Nat → Prop} {β : Beta} {Fs : Nat → List Nat} {t : Nat} {y : Value}
    (h : Inv Γ g a w S β Fs) (ht : t < Γ.N) : Inv Γ (upd g [(2 * t, some (.d .any))]) (a.put (some t) y) w S β Fs :=
  h.put ht (by unfold Rep; rfl)
theorem Inv.world {Γ : Ctx} {g : X} {a : Act} {w w' : World} {S : Nat → Prop} {β : Beta} {Fs : Nat → List Nat}
    (h : Inv Γ g a w S β Fs) (hx : Ext w w' noF) : Inv Γ g a w' S β Fs := by
  have hS : ∀ b, S b → w'.heap[b]? = w.heap[b]? := fun b hb => hx.kept b (h.sOk b hb).1 id
  have hF : ∀ r, ∀ b ∈ Fs r, w'.heap[b]? = w.heap[b]? := fun r b hb => hx.kept b (h.own r b hb).2.1 id
  exact {
    defers := h.defers
    size := h.size
    slots := fun t d ht => Rep.mono hS (fun _ h => h) d β _ [] (by simp) (h.slots t d ht)
    roots := fun r x hr => RootRep.mono hS (fun _ h => h) (hF r) (h.roots r x hr)
    noroot := h.noroot
    nodup := h.nodup
    disj := h.disj
    own := fun r b hb => ⟨(h.own r b hb).1, Nat.lt_of_lt_of_le (h.own r b hb).2.1 hx.size, (h.own r b hb).2.2⟩
    s0 := h.s0
    sOk := fun b hb => ⟨Nat.lt_of_lt_of_le (h.sOk b hb).1 hx.size, (h.sOk b hb).2⟩
    ext := ⟨hx.os.trans h.ext.os, hx.tape.trans h.ext.tape, hx.output.trans h.ext.output, Nat.le_trans h.ext.size hx.size,
      fun b hb hn => (hx.kept b (Nat.lt_of_lt_of_le hb h.ext.size) id).trans (h.ext.kept b hb hn)⟩
    fix := h.fix }
theorem Inv.weaken {Γ : Ctx} {g g' : X} {a : Act} {w : World} {S : Nat → Prop} {β : Beta} {Fs : Nat → List Nat}
    (h : Inv Γ g a w S β Fs) (hg : ∀ k e, g' k = some e → g k = some e) : ∃ Fs', Inv Γ g' a w S β Fs' := by
  refine ⟨fun r => match g' (2 * r + 1) with | some (.r _) => Fs r | _ => [], ?_⟩
  have sub : ∀ r b, b ∈ (match g' (2 * r + 1) with | some (.r _) => Fs r | _ => []) → b ∈ Fs r := by
    intro r b hb; split at hb
    · exact hb
    · simp at hb
  exact {
    defers := h.defers
    size := h.size
    slots := fun t d ht => h.slots t d (hg _ _ ht)
    roots := fun r x hr => by simp only [hr]; exact h.roots r x (hg _ _ hr)
    noroot := fun r hr => by
      split
      · rename_i x hx; exact absurd hx (hr x)
      · rfl
    nodup := fun r => by
      split
      · exact h.nodup r
      · exact List.nodup_nil
    disj := fun r r' hne b hb hb' => h.disj r r' hne b (sub r b hb) (sub r' b hb')
    own := fun r b hb => h.own r b (sub r b hb)
    s0 := h.s0
    sOk := h.sOk
    ext := h.ext
    fix := h.fix }
def Ent.names (r : Nat) : Ent → Bool
  | .d x => x.men.contains r
  | .r (.arr _ _ refs) => refs.contains r
  | .r (.mp _) => false
def FreshName (g : X) (r : Nat) : Prop := ∀ k e, g k = some e → k ≠ 2 * r + 1 ∧ e.names r = false
def setB (β : Beta) (r : Nat) (x : RefB) : Beta := fun q => if q = r then x else β q
def setF (Fs : Nat → List Nat) (r : Nat) (F : List Nat) : Nat → List Nat := fun q => if q = r then F else Fs q
theorem Rep.setB {w : World} {S : Nat → Prop} {β : Beta} {d : D} {y : Value} {F : List Nat} {r : Nat} {x : RefB} (hm : d.men.contains r = false) (h : Rep w S d β y F) : Rep w S d (setB β r x) y F :=
  Rep.beta d y F (fun q hq => by unfold Gx.setB; rw [if_neg]; rintro rfl; simp_all) h
theorem res_setB {β : Beta} {refs : List Nat} {r : Nat} {x : RefB} (h : refs.contains r = false) : (setB β r x).res refs = β.res refs := by
  funext q
  unfold Beta.res Gx.setB
  by_cases hq : refs.contains q = true
  · rw [if_pos hq, if_pos hq, if_neg]; rintro rfl; simp_all
  · rw [if_neg hq, if_neg hq]
theorem RootRep.setB {w : World} {S : Nat → Prop} {β : Beta} {x : Root} {rb : RefB} {F : List Nat} {r : Nat} {z : RefB} (hm : (Ent.r x).names r = false) (h : RootRep w S β x rb F) :
    RootRep w S (setB β r z) x rb F := by
  cases x with
  | arr sz cells refs =>
    cases rb with
    | none => exact h
    | nil => exact h
    | blk b o sz' m =>
      have e : (Gx.setB β r z).res refs = β.res refs := res_setB (by simpa [Ent.names] using hm)
      simpa only [RootRep, e] using h
  | mp es => cases rb <;> exact h
theorem Inv.newRoot {Γ : Ctx} {g : X} {a : Act} {w : World} {S : Nat → Prop} {β : Beta} {Fs : Nat → List Nat} {r : Nat} {x : Root} {rb : RefB} {F : List Nat}
    (h : Inv Γ g a w S β Fs) (hnp : Γ.np ≤ r) (hf : FreshName g r) (hx : RootRep w S (setB β r rb) x rb F) (hn : F.Nodup)
    (hF : ∀ b ∈ F, ¬ S b ∧ b < w.heap.size ∧ (Γ.F0 b ∨ Γ.w0.heap.size ≤ b) ∧ ∀ q, b ∉ Fs q) :
    Inv Γ (upd g [(2 * r + 1, some (.r x))]) a w S (setB β r rb) (setF Fs r F) where
  defers := h.defers
  size := h.size
  slots := fun t d ht => by
    rw [upd_one, if_neg (by omega)] at ht
    exact (h.slots t d ht).setB (by simpa [Ent.names] using (hf _ _ ht).2)
  roots := fun q z hq => by
    rw [upd_one] at hq
    by_cases e : q = r
    · subst e; simp at hq; subst hq; simpa [Gx.setB, setF] using hx
    · rw [if_neg (by omega)] at hq
      have := h.roots q z hq
      simp only [Gx.setB, setF, if_neg e]
      exact this.setB (hf _ _ hq).2
  noroot := fun q hq => by
    by_cases e : q = r
    · subst e; exact absurd (by rw [upd_one, if_pos rfl]) (hq x)
    · simp only [setF, if_neg e]
      exact h.noroot q (fun z hz => hq z (by rw [upd_one, if_neg (by omega)]; exact hz))
  nodup := fun q => by unfold setF; split; exact hn; exact h.nodup q
  disj := fun q q' hne b hb hb' => by
    unfold setF at hb hb'
    split at hb <;> split at hb'
    · omega
    · exact (hF b hb).2.2.2 q' hb'
    · exact (hF b hb').2.2.2 q hb
    · exact h.disj q q' hne b hb hb'
  own := fun q b hb => by
    unfold setF at hb
    split at hb
    · exact ⟨(hF b hb).1, (hF b hb).2.1, (hF b hb).2.2.1⟩
    · exact h.own q b hb
  s0 := h.s0
  sOk := h.sOk
  ext := h.ext
  fix := fun q hq => by unfold Gx.setB; rw [if_neg (by omega)]; exact h.fix q hq
end Go.Gx
namespace Go.Gx
abbrev St := List (Nat × Ent)
def look : St → X
  | [] => fun _ => none
  | (k, e) :: r => fun q => if q = k then some e else look r q
def Needs (g : X) : List (Nat × Ent) → Prop
  | [] => True
  | p :: r => g p.1 = some p.2 ∧ Needs g r
theorem Needs.append {g : X} : ∀ {l l' : List (Nat × Ent)}, Needs g (l ++ l') ↔ Needs g l ∧ Needs g l'
  | [], _ => by simp [Needs]
  | p :: l, l' => by simp [Needs, Needs.append (l := l), and_assoc]
theorem Needs.mem {g : X} : ∀ {l : List (Nat × Ent)}, Needs g l → ∀ p ∈ l, g p.1 = some p.2
  | [], _, p, hp => by simp at hp
  | q :: l, h, p, hp => by
    rcases List.mem_cons.1 hp with rfl | hp
    · exact h.1
    · exact Needs.mem h.2 p hp
def evD (st : St) : Operand → D
  | .tmp t => match look st (2 * t) with
    | some (.d d) => d
    | _ => .any
  | .const v => .v v
  | .global n => .v (.pointer (some ⟨n, 0, .none⟩))
  | .func f => .fn f []
def needOf (st : St) : Operand → List (Nat × Ent)
  | .tmp t => match look st (2 * t) with
    | some (.d d) => [(2 * t, .d d)]
    | _ => []
  | _ => []
def needRoot (st : St) (r : Nat) : List (Nat × Ent) :=
  match look st (2 * r + 1) with
  | some (.r x) => [(2 * r + 1, .r x)]
  | _ => []
def needAll (st : St) : List Operand → List (Nat × Ent)
  | [] => []
  | x :: l => needOf st x ++ needAll st l
section
variable {Γ : Ctx} {g : X} {a : Act} {w : World} {S : Nat → Prop} {β : Beta} {Fs : Nat → List Nat}
theorem Inv.eval (h : Inv Γ g a w S β Fs) {st : St} {x : Operand} (hn : Needs g (needOf st x)) : Rep w S (evD st x) β (a.eval x) [] := by
  cases x with
  | tmp t =>
    simp only [evD, needOf] at *
    split <;> rename_i hl
    · rw [hl] at hn; exact h.slots t _ hn.1
    · unfold Rep; rfl
  | const v => simp [evD, Rep, Act.eval]
  | global n => simp [evD, Rep, Act.eval]
  | func f => simp [evD, Rep, Act.eval, RepL]
theorem Needs.all {st : St} : ∀ {l : List Operand}, Needs g (needAll st l) → ∀ x ∈ l, Needs g (needOf st x)
  | [], _, x, hx => by simp at hx
  | y :: l, h, x, hx => by
    rw [needAll, Needs.append] at h
    rcases List.mem_cons.1 hx with rfl | hx
    · exact h.1
    · exact Needs.all h.2 x hx
end
def OpX (P : Program) (o : Oper) (N : Nat) (need : List (Nat × Ent)) (wr : Wr) (fresh : List Nat) : Prop :=
  ∀ Γ, Γ.N = N → ∀ g a w K Q, Sat Γ g a w → Needs g need → (∀ r ∈ fresh, Γ.np ≤ r ∧ FreshName g r) → (∀ a' w', Sat Γ (upd g wr) a' w' → K a' w') → o.wp P a w K Q
theorem opx_val {P : Program} {o : Oper} {N t : Nat} {need : List (Nat × Ent)} {d : D} (hd : o.dst = some t) (ht : t < N)
    (h : ∀ Γ g a w S β Fs, Inv Γ g a w S β Fs → Needs g need → ∃ y, (execOp a.eval o).run P w = .ok (.value y) w ∧ Rep w S d β y []) :
    OpX P o N need [(2 * t, some (.d d))] [] := by
  intro Γ hN g a w K Q hs hn _ hK
  obtain ⟨S, β, Fs, hi⟩ := hs
  obtain ⟨y, hr, hy⟩ := h Γ g a w S β Fs hi hn
  unfold Oper.wp
  rw [hr]
  show K (a.put o.dst y) w
  rw [hd]
  exact hK _ _ ⟨S, β, Fs, hi.put (by omega) hy⟩
section
variable {P : Program} {o : Oper} {N t : Nat} {st : St}
theorem opx_move {x : Operand} (ho : o.op = .move x ∨ o.op = .assign x) (hd : o.dst = some t) (ht : t < N) :
    OpX P o N (needOf st x) [(2 * t, some (.d (evD st x)))] [] :=
  opx_val hd ht fun Γ g a w S β Fs hi hn => ⟨a.eval x, by rcases ho with ho | ho <;> simp [execOp, ho], hi.eval hn⟩
theorem Rep_v {w : World} {S : Nat → Prop} {β : Beta} {x y : Value} {F : List Nat} : Rep w S (.v x) β y F ↔ y = x ∧ F = [] := by simp [Rep]
def pickD : Bool → D → D → D
  | true, x, _ => x
  | false, _, y => y
theorem opx_pick {c x y : Operand} {b : Bool} (ho : o.op = .pick c x y) (hd : o.dst = some t) (ht : t < N) (hc : evD st c = .v (.bool b)) :
    OpX P o N (needOf st c ++ (needOf st x ++ needOf st y)) [(2 * t, some (.d (pickD b (evD st x) (evD st y))))] [] :=
  opx_val hd ht fun Γ g a w S β Fs hi hn => by
    rw [Needs.append, Needs.append] at hn
    have h1 := hi.eval hn.1
    rw [hc, Rep_v] at h1
    refine ⟨if b then a.eval x else a.eval y, by simp [execOp, ho, h1.1, asBool], ?_⟩
    cases b
    · exact hi.eval hn.2.2
    · exact hi.eval hn.2.1
def D.sure : D → Bool
  | .rp _ _ => true
  | .pt _ _ => true
  | .fn _ _ => true
  | .fb _ _ => true
  | .fm _ _ => true
  | .fc _ _ => true
  | _ => false
structure TI where
  desc : TypeDesc
  size : Nat
  bytes : Nat
  zero : List Value
abbrev Tab := List (Nat × TI)
def Tab.get : Tab → Nat → Option TI
  | [], _ => none
  | (k, i) :: r, t => if t = k then some i else Tab.get r t
def TIok (P : Program) (t : Nat) (i : TI) : Prop :=
  P.underlying t = some i.desc ∧ ∃ inf z, P.info? t = some inf ∧ inf.size = i.size ∧ inf.bytes = i.bytes ∧ inf.zero = some z ∧ z.cells.toList = i.zero
def TabOk (P : Program) : Tab → Prop
  | [] => True
  | (t, i) :: r => TIok P t i ∧ TabOk P r
theorem TabOk.get {T : Tab} (h : TabOk P T) {t : Nat} {i : TI} (hg : T.get t = some i) : TIok P t i := by
  induction T with
  | nil => simp [Tab.get] at hg
  | cons p T ih =>
    obtain ⟨k, j⟩ := p
    unfold Tab.get at hg
    split at hg
    · rename_i e; subst e; cases hg; exact h.1
    · exact ih h.2 hg
theorem TIok.und {t : Nat} {i : TI} (h : TIok P t i) (w : World) : (underlying t).run P w = .ok i.desc w := by
  simp [underlying, h.1]
theorem TIok.size {t : Nat} {i : TI} (h : TIok P t i) (w : World) : (sizeOf t).run P w = .ok i.size w := by
  obtain ⟨_, inf, z, h1, h2, _⟩ := h
  simp [sizeOf, typeInfo, h1, h2]
theorem TIok.info {t : Nat} {i : TI} (h : TIok P t i) (w : World) : ∃ inf, (typeInfo t).run P w = .ok inf w ∧ inf.bytes = i.bytes ∧ inf.size = i.size := by
  obtain ⟨_, inf, z, h1, h2, h3, _⟩ := h
  exact ⟨inf, by simp [typeInfo, h1], h3, h2⟩
theorem TIok.zeroV {t : Nat} {i : TI} (h : TIok P t i) (w : World) : ∃ z, (zeroValue t).run P w = .ok z w ∧ z.cells.toList = i.zero := by
  obtain ⟨_, inf, z, h1, h2, h3, h4, h5⟩ := h
  exact ⟨z, by simp [zeroValue, typeInfo, h1, h4], h5⟩
def dBin (op : BinOp) : D → D → Option (D × List Prop)
  | .v (.int k a), .v (.int k' b) =>
    if k = k' then
      match op with
      | .add => some (.v (.int k (k.wrap (a + b))), [])
      | .sub => some (.v (.int k (k.wrap (a - b))), [])
      | .mul => some (.v (.int k (k.wrap (a * b))), [])
      | .quo => some (.v (.int k (k.wrap (a.tdiv b))), [b ≠ 0])
      | .rem => some (.v (.int k (a.tmod b)), [b ≠ 0])
      | .eql => some (.v (.bool (a == b)), [])
      | .neq => some (.v (.bool (a != b)), [])
      | .lss => some (.v (.bool (decide (a < b))), [])
      | .leq => some (.v (.bool (decide (a ≤ b))), [])
      | .gtr => some (.v (.bool (decide (a > b))), [])
      | .geq => some (.v (.bool (decide (a ≥ b))), [])
      | _ => none
    else none
  | .v (.string a), .v (.string b) =>
    match op with
    | .add => some (.v (.string (a ++ b)), [((a.size + b.size : Nat) : Int) ≤ IntKind.i64.max])
    | .eql => some (.v (.bool (a.toList == b.toList)), [])
    | .neq => some (.v (.bool (!(a.toList == b.toList))), [])
    | _ => none
  | _, _ => none
def allP : List Prop → Prop
  | [] => True
  | p :: l => p ∧ allP l
theorem dBin_ok {op : BinOp} {d1 d2 d : D} {cs : List Prop} (h : dBin op d1 d2 = some (d, cs)) (hc : allP cs) (T : TypeId) (xo yo : Operand) (y1 y2 : Value) (w : World)
    {S : Nat → Prop} {β : Beta} (h1 : Rep w S d1 β y1 []) (h2 : Rep w S d2 β y2 []) :
    ∃ y, (do eqGuard op T xo yo y1 y2; binOp op T y1 y2 : Sem Value).run P w = .ok y w ∧ Rep w S d β y [] := by
  unfold dBin at h
  split at h
  · rename_i k a k' b
    rw [Rep_v] at h1 h2
    obtain ⟨rfl, _⟩ := h1
    obtain ⟨rfl, _⟩ := h2
    split at h
    · rename_i hk; subst hk
      have hg : (eqGuard op T xo yo (.int k a) (.int k b)).run P w = .ok () w := by
        unfold eqGuard; cases op <;> simp
      cases op <;> simp at h <;> obtain ⟨rfl, rfl⟩ := h <;>
        simp [hg, binOp, Op.intArith, Op.intCmp, Op.intDiv, Rep_v] <;> simp_all [allP]
    · cases h
  · rename_i a b
    rw [Rep_v] at h1 h2
    obtain ⟨rfl, _⟩ := h1
    obtain ⟨rfl, _⟩ := h2
    have hg : (eqGuard op T xo yo (.string a) (.string b)).run P w = .ok () w := by
      unfold eqGuard; cases op <;> simp
    cases op <;> simp only [reduceCtorEq, Option.some.injEq, Prod.mk.injEq] at h <;> obtain ⟨rfl, rfl⟩ := h
    · have := hc.1
      simp only [Sem.run_bind, hg, Result.andThen_ok, binOp, Op.stringOp, Int.not_lt.2 this, if_false, Sem.run_pure, GT.gt]
      exact ⟨_, rfl, by simp [Rep_v]⟩
    · simp [hg, binOp, Op.stringOp, Rep_v]
    · simp [hg, binOp, Op.stringOp, Rep_v]
  · cases h
theorem opx_bin {op : BinOp} {T T2 : TypeId} {x y : Operand} {d : D} {cs : List Prop} (ho : o.op = .binOp op T x y T2) (hd : o.dst = some t) (ht : t < N)
    (h : dBin op (evD st x) (evD st y) = some (d, cs)) (hc : allP cs) :
    OpX P o N (needOf st x ++ needOf st y) [(2 * t, some (.d d))] [] :=
  opx_val hd ht fun Γ g a w S β Fs hi hn => by
    rw [Needs.append] at hn
    obtain ⟨z, hz, hr⟩ := dBin_ok (P := P) h hc T x y _ _ w (hi.eval hn.1) (hi.eval hn.2)
    exact ⟨z, by simp only [execOp, ho]; simp only [Sem.run_bind, hz, Result.andThen_ok, Sem.run_pure], hr⟩
end
end Go.Gx
namespace Go.Gx
section
variable {P : Program} {o : Oper} {N t : Nat} {st : St} {T : Tab}
theorem add_lit (b k n : Nat) : (⟨b, k, .none⟩ : Addr).add n = ⟨b, k + n, .none⟩ := by
  unfold Addr.add; split <;> simp_all
def dRoot : D → List Nat
  | .rs r _ _ => [r]
  | .rp r _ => [r]
  | .rm r => [r]
  | _ => []
def hasRoots (st : St) : List Nat → Bool
  | [] => true
  | r :: l => (match look st (2 * r + 1) with | some (.r _) => true | _ => false) && hasRoots st l
def needRoots (st : St) : List Nat → List (Nat × Ent)
  | [] => []
  | r :: l => needRoot st r ++ needRoots st l
theorem RootRep.ne {w : World} {S : Nat → Prop} {β : Beta} {x : Root} {F : List Nat} (h : RootRep w S β x .none F) : False := by
  cases x <;> exact h
theorem Inv.root_known {Γ : Ctx} {g : X} {a : Act} {w : World} {S : Nat → Prop} {β : Beta} {Fs : Nat → List Nat} (h : Inv Γ g a w S β Fs) :
    ∀ {l : List Nat}, hasRoots st l = true → Needs g (needRoots st l) → ∀ r ∈ l, β r ≠ .none
  | [], _, _, r, hr => by simp at hr
  | q :: l, hh, hn, r, hr => by
    simp only [hasRoots, Bool.and_eq_true] at hh
    rw [needRoots, Needs.append] at hn
    rcases List.mem_cons.1 hr with rfl | hr
    · have h1 := hh.1
      split at h1
      · rename_i x hx
        simp only [needRoot, hx] at hn
        have := h.roots r x hn.1.1
        intro e; rw [e] at this; exact this.ne
      · simp at h1
    · exact Inv.root_known h hh.2 hn.2 r hr
theorem opx_nilCheck {x : Operand} (ho : o.op = .nilCheck x) (hd : o.dst = some t) (ht : t < N) (hr : hasRoots st (dRoot (evD st x)) = true) (hs : (evD st x).sure = true) :
    OpX P o N (needOf st x ++ needRoots st (dRoot (evD st x))) [(2 * t, some (.d (evD st x)))] [] :=
  opx_val hd ht fun Γ g a w S β Fs hi hn => by
    rw [Needs.append] at hn
    have h1 := hi.eval hn.1
    have h3 := hi.root_known hr hn.2
    refine ⟨a.eval x, ?_, h1⟩
    generalize he : evD st x = d at *
    cases d <;> simp [D.sure] at hs
    case rp r off =>
      unfold Rep at h1
      cases hb : β r with
      | none => exact absurd hb (h3 r (by simp [dRoot]))
      | nil => rw [hb] at h1; exact h1.2.elim
      | blk b o' sz m => rw [hb] at h1; simp [execOp, ho, h1.2]
    case pt ds off =>
      unfold Rep at h1
      obtain ⟨_, _, b, o', ys, e, _⟩ := h1
      simp [execOp, ho, e]
    case fn f caps =>
      unfold Rep at h1
      obtain ⟨ys, e, _⟩ := h1
      simp [execOp, ho, e]
    case fb f caps =>
      unfold Rep at h1
      obtain ⟨_, _, ys, e, _⟩ := h1
      simp [execOp, ho, e]
    case fm f caps =>
      unfold Rep at h1
      obtain ⟨ys, e, _⟩ := h1
      simp [execOp, ho, e]
    case fc f caps =>
      unfold Rep at h1
      obtain ⟨_, _, ys, e, _⟩ := h1
      simp [execOp, ho, e]
def dField (fo : Nat) : D → Option D
  | .rp r off => some (.rp r (off + fo))
  | .pt ds off => some (.pt ds (off + fo))
  | _ => none
theorem sureAddr_rep {w : World} {S : Nat → Prop} {β : Beta} {d d' : D} {y : Value} {n : Nat} (h : Rep w S d β y []) (hd : dField n d = some d') (hb : ∀ r ∈ dRoot d, β r ≠ .none) :
    ∃ b k, y = .pointer (some ⟨b, k, .none⟩) ∧ Rep w S d' β (.pointer (some ⟨b, k + n, .none⟩)) [] := by
  cases d <;> simp [dField] at hd
  case rp r off =>
    subst hd
    unfold Rep at *
    cases e : β r with
    | none => exact absurd e (hb r (by simp [dRoot]))
    | nil => rw [e] at h; exact h.2.elim
    | blk b o' sz m => rw [e] at h; exact ⟨b, o' + off, h.2, rfl, by simp [Nat.add_assoc]⟩
  case pt ds off =>
    subst hd
    unfold Rep at *
    obtain ⟨_, hmn, b, o', ys, e, h1, h2, h3⟩ := h
    exact ⟨b, o' + off, e, rfl, hmn, b, o', ys, by simp [Nat.add_assoc], h1, h2, h3⟩
def fieldOf (T : Tab) (s f : Nat) : Option Nat :=
  match T.get s with
  | some i => match i.desc with
    | .struct fs => match fs[f]? with
      | some fl => match T.get fl.type with
        | some j => if j.size = 0 then none else some fl.offset
        | none => none
      | none => none
    | _ => none
  | none => none
theorem fieldAt_run (hT : TabOk P T) {s f fo : Nat} (h : fieldOf T s f = some fo) (w : World) (b k : Nat) :
    (Instr.fieldAt s (.pointer (some ⟨b, k, .none⟩)) f).run P w = .ok (.pointer (some ⟨b, k + fo, .none⟩)) w := by
  unfold fieldOf at h
  split at h
  · rename_i i hi
    split at h
    · rename_i fs hfs
      split at h
      · rename_i fl hfl
        split at h
        · rename_i j hj
          split at h
          · cases h
          · rename_i hz
            cases h
            have e := hT.get hi
            have e2 := (hT.get hj).size w
            simp [Instr.fieldAt, (hT.get hi).und, hfs, hfl, Instr.sureAddr, fieldPlace, e2, hz, add_lit]
        · cases h
      · cases h
    · cases h
  · cases h
theorem opx_fieldAddr (hT : TabOk P T) {s f fo : Nat} {x : Operand} {d : D} (ho : o.op = .fieldAddr s x f) (hd : o.dst = some t) (ht : t < N)
    (hf : fieldOf T s f = some fo) (hx : dField fo (evD st x) = some d) (hr : hasRoots st (dRoot (evD st x)) = true) :
    OpX P o N (needOf st x ++ needRoots st (dRoot (evD st x))) [(2 * t, some (.d d))] [] :=
  opx_val hd ht fun Γ g a w S β Fs hi hn => by
    rw [Needs.append] at hn
    obtain ⟨b, k, e, h⟩ := sureAddr_rep (hi.eval hn.1) hx (hi.root_known hr hn.2)
    refine ⟨_, ?_, h⟩
    simp only [execOp, ho, e, Sem.run_bind, fieldAt_run hT hf, Result.andThen_ok, Sem.run_pure]
def dIndex (sz : Nat) : D → D → Option (D × List Prop)
  | .rs r off n, .v (.int _ i) => some (.rp r (off + i.toNat * sz), [0 ≤ i, i < n])
  | .sl n off ds, .v (.int _ i) => some (.pt ds (off + i.toNat * sz), [0 ≤ i, i < n])
  | _, _ => none
def elemSize (T : Tab) (s : Nat) : Option Nat :=
  match T.get s with
  | some i => match i.desc with
    | .slice e => (T.get e).map (·.size)
    | _ => none
  | none => none
theorem elemSize_ok (hT : TabOk P T) {s sz : Nat} (h : elemSize T s = some sz) : ∃ e, (∀ w, (underlying s).run P w = .ok (.slice e) w) ∧ ∀ w, (sizeOf e).run P w = .ok sz w := by
  unfold elemSize at h
  split at h
  · rename_i i hi
    split at h
    · rename_i e he
      cases hj : T.get e with
      | none => rw [hj] at h; cases h
      | some j =>
        rw [hj] at h; cases h
        exact ⟨e, fun w => by rw [(hT.get hi).und, he], fun w => (hT.get hj).size w⟩
    · cases h
  · cases h
theorem opx_index (hT : TabOk P T) {s sz : Nat} {x y : Operand} {d : D} {cs : List Prop} (ho : o.op = .indexAddr s x y) (hd : o.dst = some t) (ht : t < N)
    (hf : elemSize T s = some sz) (hx : dIndex sz (evD st x) (evD st y) = some (d, cs)) (hc : allP cs) (hr : hasRoots st (dRoot (evD st x)) = true) :
    OpX P o N (needOf st x ++ (needOf st y ++ needRoots st (dRoot (evD st x)))) [(2 * t, some (.d d))] [] :=
  opx_val hd ht fun Γ g a w S β Fs hi hn => by
    rw [Needs.append, Needs.append] at hn
    have h1 := hi.eval hn.1
    have h2 := hi.eval hn.2.1
    have h3 := hi.root_known hr hn.2.2
    obtain ⟨e, hu, hs⟩ := elemSize_ok hT hf
    unfold dIndex at hx
    split at hx
    · rename_i r off n k i e1 e2
      cases hx
      rw [e1] at h1 h3
      rw [e2, Rep_v] at h2
      obtain ⟨c1, c2, _⟩ := hc
      unfold Rep at h1
      cases eb : β r with
      | none => exact absurd eb (h3 r (by simp [dRoot]))
      | nil => rw [eb] at h1; omega
      | blk b o' sz' m =>
        rw [eb] at h1
        obtain ⟨_, cap, e3, _⟩ := h1
        refine ⟨.pointer (some ⟨b, o' + (off + i.toNat * sz), .none⟩), ?_, by unfold Rep; rw [eb]; exact ⟨rfl, rfl⟩⟩
        simp only [execOp, ho, e3, h2.1]
        simp [Instr.indexAt, asIntOf, hu, hs, c1, c2, add_lit, Nat.add_assoc]
    · rename_i n off ds k i e1 e2
      cases hx
      rw [e1] at h1
      rw [e2, Rep_v] at h2
      obtain ⟨c1, c2, _⟩ := hc
      unfold Rep at h1
      obtain ⟨_, hmn, aa, cap, e3, _, h1⟩ := h1
      rcases h1 with rfl | ⟨b, o', ys, rfl, h4, h5, h6⟩
      · exact absurd c2 (by simp; omega)
      · refine ⟨.pointer (some ⟨b, o' + (off + i.toNat * sz), .none⟩), ?_, by unfold Rep; exact ⟨rfl, hmn, b, o', ys, rfl, h4, h5, h6⟩⟩
        simp only [execOp, ho, e3, h2.1]
        simp [Instr.indexAt, asIntOf, hu, hs, c1, c2, add_lit, Nat.add_assoc]
    · cases hx
theorem opx_addrArr (hT : TabOk P T) {s len E : Nat} {i j : TI} {x y : Operand} {d : D} {k : IntKind} {n : Int} (ho : o.op = .indexAddr s x y) (hd : o.dst = some t) (ht : t < N)
    (hs : T.get s = some i) (hdsc : i.desc = .array len E) (hE : T.get E = some j) (hy : evD st y = .v (.int k n)) (h0 : 0 ≤ n) (h1 : n < (len : Int)) (_ : 1 < len)
    (hx : dField (n.toNat * j.size) (evD st x) = some d) (hr : hasRoots st (dRoot (evD st x)) = true) :
    OpX P o N (needOf st x ++ (needOf st y ++ needRoots st (dRoot (evD st x)))) [(2 * t, some (.d d))] [] :=
  opx_val hd ht fun Γ g a w S β Fs hi hn => by
    rw [Needs.append, Needs.append] at hn
    have g2 := hi.eval hn.2.1
    rw [hy, Rep_v] at g2
    obtain ⟨b, q, e, h⟩ := sureAddr_rep (hi.eval hn.1) hx (hi.root_known hr hn.2.2)
    have hu : ∀ w, (underlying s).run P w = .ok (.array len E) w := fun w => by rw [(hT.get hs).und, hdsc]
    have hz : ∀ w, (sizeOf E).run P w = .ok j.size w := fun w => (hT.get hE).size w
    refine ⟨_, ?_, h⟩
    simp only [execOp, ho, e, g2.1]
    simp [Instr.indexAt, asIntOf, Instr.sureAddr, hu, hz, h0, h1, add_lit]
end
mutual
def D.noFr : D → Bool
  | .fr _ _ _ => false
  | .agg ds => noFrL ds
  | .tup ds => noFrL ds
  | .fn _ caps => noFrL caps
  | .fm _ caps => noFrL caps
  | .ifc _ d => d.noFr
  | _ => true
def noFrL : List D → Bool
  | [] => true
  | d :: ds => d.noFr && noFrL ds
end
mutual
theorem Rep.noF {w : World} {S : Nat → Prop} : ∀ {d : D} {β : Beta} {y : Value} {F : List Nat}, d.noFr = true → Rep w S d β y F → F = []
  | .any, _, _, _, _, h => by unfold Rep at h; exact h
  | .v x, _, _, _, _, h => by unfold Rep at h; exact h.2
  | .agg ds, _, _, _, hn, h => by unfold D.noFr at hn; unfold Rep at h; obtain ⟨ys, _, h⟩ := h; exact RepL.noF hn h
  | .tup ds, _, _, _, hn, h => by unfold D.noFr at hn; unfold Rep at h; obtain ⟨ys, _, h⟩ := h; exact RepT.noF hn h
  | .sl _ _ _, _, _, _, _, h => by unfold Rep at h; exact h.1
  | .pt _ _, _, _, _, _, h => by unfold Rep at h; exact h.1
  | .fr _ _ _, _, _, _, hn, _ => by unfold D.noFr at hn; cases hn
  | .rs _ _ _, _, _, _, _, h => by unfold Rep at h; exact h.1
  | .rp _ _, _, _, _, _, h => by unfold Rep at h; exact h.1
  | .fn _ caps, _, _, _, hn, h => by unfold D.noFr at hn; unfold Rep at h; obtain ⟨ys, _, h⟩ := h; exact RepL.noF hn h
  | .fm _ caps, _, _, _, hn, h => by unfold D.noFr at hn; unfold Rep at h; obtain ⟨ys, _, h⟩ := h; exact RepL.noF hn h
  | .ifc _ d, _, _, _, hn, h => by unfold D.noFr at hn; unfold Rep at h; obtain ⟨x, _, h⟩ := h; exact Rep.noF hn h
  | .rm _, _, _, _, _, h => by unfold Rep at h; exact h.1
  | .bm _, _, _, _, _, h => by unfold Rep at h; exact h.1
  | .fb _ _, _, _, _, _, h => by unfold Rep at h; exact h.1
  | .fc _ _, _, _, _, _, h => by unfold Rep at h; exact h.1
theorem RepL.noF {w : World} {S : Nat → Prop} : ∀ {ds : List D} {β : Beta} {ys : List Value} {F : List Nat}, noFrL ds = true → RepL w S ds β ys F → F = []
  | [], _, _, _, _, h => by unfold RepL at h; exact h.2
  | d :: ds, _, _, _, hn, h => by
    simp only [noFrL, Bool.and_eq_true] at hn
    unfold RepL at h
    obtain ⟨y, ys', F1, F2, _, rfl, _, h1, h2⟩ := h
    rw [Rep.noF hn.1 h1, RepL.noF hn.2 h2]; rfl
theorem RepT.noF {w : World} {S : Nat → Prop} : ∀ {ds : List D} {β : Beta} {ys : List Value} {F : List Nat}, noFrL ds = true → RepT w S ds β ys F → F = []
  | [], _, _, _, _, h => by unfold RepT at h; exact h.2
  | d :: ds, _, _, _, hn, h => by
    simp only [noFrL, Bool.and_eq_true] at hn
    unfold RepT at h
    obtain ⟨y, ys', F1, F2, _, rfl, h1, h2⟩ := h
    rw [Rep.noF hn.1 h1, RepT.noF hn.2 h2]; rfl
end
section
variable {P : Program} {o : Oper} {N t : Nat} {st : St} {T : Tab}
def subRefs (ms refs : List Nat) : Bool := ms.all fun r => refs.contains r
theorem Rep.unres {w : World} {S : Nat → Prop} {β : Beta} {refs : List Nat} {d : D} {y : Value} {F : List Nat} (hs : subRefs d.men refs = true) (h : Rep w S d (β.res refs) y F) : Rep w S d β y F :=
  Rep.beta d y F (fun r hr => by
    have := List.all_eq_true.1 hs r hr
    unfold Beta.res; rw [if_pos this]) h
theorem RepL.unres {w : World} {S : Nat → Prop} {β : Beta} {refs : List Nat} {ds : List D} {ys : List Value} {F : List Nat} (hs : subRefs (menL ds) refs = true) (h : RepL w S ds (β.res refs) ys F) : RepL w S ds β ys F :=
  RepL.beta ds ys F (fun r hr => by
    have := List.all_eq_true.1 hs r hr
    unfold Beta.res; rw [if_pos this]) h
theorem noB_res {β : Beta} : noB = β.res [] := by funext r; simp [noB, Beta.res]
def dSees (st : St) : D → Option (List D × Nat × List Nat)
  | .rp r off => match look st (2 * r + 1) with
    | some (.r (.arr _ cells refs)) => some (cells, off, refs)
    | _ => none
  | .pt ds off => some (ds, off, [])
  | _ => none
theorem Seg.cell {w : World} {b o i : Nat} {ys : List Value} {y : Value} (h : Seg w b o ys) (hy : ys[i]? = some y) : w.cell? ⟨b, o + i, .none⟩ = some y := by
  obtain ⟨pre, rest, E, fz, h1, rfl⟩ := h
  have hi := (List.getElem?_eq_some_iff.1 hy).1
  simp only [World.cell?, h1, Option.isSome, List.getElem?_toArray, List.append_assoc]
  rw [List.getElem?_append_right (by omega), Nat.add_sub_cancel_left, List.getElem?_append_left hi]
  simpa using hy
theorem sees {w : World} {S : Nat → Prop} {β : Beta} {Γ : Ctx} {g : X} {a : Act} {Fs : Nat → List Nat} (hi : Inv Γ g a w S β Fs) {d : D} {y : Value} {ds : List D} {off : Nat} {refs : List Nat}
    (h : Rep w S d β y []) (hs : dSees st d = some (ds, off, refs)) (hn : Needs g (needRoots st (dRoot d))) :
    ∃ b k ys F, y = .pointer (some ⟨b, k + off, .none⟩) ∧ Seg w b k ys ∧ RepL w S ds (β.res refs) ys F := by
  cases d <;> simp [dSees] at hs
  case rp r off' =>
    split at hs
    · rename_i sz cells refs' hl
      simp at hs
      obtain ⟨rfl, rfl, rfl⟩ := hs
      simp only [dRoot, needRoots, needRoot, hl, List.append_nil, Needs] at hn
      have hr := hi.roots r _ hn.1
      unfold Rep at h
      cases e : β r with
      | none => rw [e] at hr; exact hr.ne.elim
      | nil => rw [e] at h; exact h.2.elim
      | blk b o' sz' m =>
        rw [e] at h hr
        obtain ⟨_, pre, ys, rest, E, F', h1, h2, h3, h4, h5, _⟩ := hr
        exact ⟨b, o', ys, F', h.2, ⟨pre, rest, _, _, h1, h3⟩, h5⟩
    · cases hs
  case pt ds' off' =>
    obtain ⟨rfl, rfl, rfl⟩ := hs
    unfold Rep at h
    obtain ⟨_, _, b, o', ys, e, h1, h2, h3⟩ := h
    rw [noB_res (β := β)] at h3
    exact ⟨b, o', ys, [], e, h2, h3⟩
def isAggD : TypeDesc → Bool
  | .struct _ => true
  | .array _ _ => true
  | _ => false
theorem isAgg_run (hT : TabOk P T) {s : Nat} {i : TI} (h : T.get s = some i) (w : World) : (isAgg s).run P w = .ok (isAggD i.desc) w := by
  have := (hT.get h).und w
  unfold isAgg
  cases e : i.desc <;> simp [this, e, isAggD]
theorem opx_load (hT : TabOk P T) {s : Nat} {i : TI} {x : Operand} {d : D} {ds : List D} {off : Nat} {refs : List Nat} (ho : o.op = .load s x) (hd : o.dst = some t) (ht : t < N)
    (hi' : T.get s = some i) (ha : isAggD i.desc = false) (hs : dSees st (evD st x) = some (ds, off, refs)) (hc : ds[off]? = some d) (hm : subRefs d.men refs = true) (hf : d.noFr = true) :
    OpX P o N (needOf st x ++ needRoots st (dRoot (evD st x))) [(2 * t, some (.d d))] [] :=
  opx_val hd ht fun Γ g a w S β Fs hi hn => by
    rw [Needs.append] at hn
    obtain ⟨b, k, ys, F, e, h1, h2⟩ := sees hi (hi.eval hn.1) hs hn.2
    obtain ⟨ya, y, yb, Fa, Fd, Fb, rfl, hl, _, _, h3, _, _⟩ := RepL_mid h2 hc
    obtain rfl := Rep.noF hf h3
    have hcell := h1.cell (i := off) (y := y) (by rw [← hl]; simp)
    refine ⟨y, ?_, h3.unres hm⟩
    simp only [execOp, ho, e]
    simp [Instr.loadAt, Instr.sureAddr, loadVar, isAgg_run hT hi', ha, hcell]
theorem RepL_sub {w : World} {S : Nat → Prop} {β : Beta} {ds : List D} {ys : List Value} {F : List Nat} (h : RepL w S ds β ys F) (i n : Nat) :
    ∃ F', RepL w S ((ds.drop i).take n) β ((ys.drop i).take n) F' := by
  have e : ds = ds.take i ++ ((ds.drop i).take n ++ (ds.drop i).drop n) := by rw [List.take_append_drop, List.take_append_drop]
  rw [e] at h
  obtain ⟨ya, y2, Fa, F2, rfl, rfl, h1, h2⟩ := RepL_append h
  obtain ⟨yb, yc, Fb, Fc, rfl, rfl, h3, h4⟩ := RepL_append h2
  refine ⟨Fb, ?_⟩
  have l1 := RepL_length h1
  have l3 := RepL_length h3
  simp at l1 l3
  have l2 := RepL_length h4
  simp at l2
  have : (List.drop i (ya ++ (yb ++ yc))).take n = yb := by
    by_cases hi : i ≤ ds.length
    · have : ya.length = i := by omega
      rw [← this, List.drop_left]
      by_cases hn : n ≤ ds.length - i
      · have : yb.length = n := by omega
        rw [← this, List.take_left]
      · have : yc = [] := by apply List.eq_nil_of_length_eq_zero; omega
        subst this; simp; rw [List.take_of_length_le]; omega
    · have hb : yb = [] := by apply List.eq_nil_of_length_eq_zero; omega
      have hcc : yc = [] := by apply List.eq_nil_of_length_eq_zero; omega
      subst hb hcc
      simp; right; omega
  rw [this]; exact h3
theorem opx_loadAgg (hT : TabOk P T) {s : Nat} {i : TI} {x : Operand} {ds' : List D} {ds : List D} {off : Nat} {refs : List Nat} (ho : o.op = .load s x) (hd : o.dst = some t) (ht : t < N)
    (hi' : T.get s = some i) (ha : isAggD i.desc = true) (hs : dSees st (evD st x) = some (ds, off, refs)) (hc : (ds.drop off).take i.size = ds') (hl : ds'.length = i.size)
    (hm : subRefs (menL ds') refs = true) (hf : noFrL ds' = true) :
    OpX P o N (needOf st x ++ needRoots st (dRoot (evD st x))) [(2 * t, some (.d (.agg ds')))] [] :=
  opx_val hd ht fun Γ g a w S β Fs hi hn => by
    rw [Needs.append] at hn
    obtain ⟨b, k, ys, F, e, h1, h2⟩ := sees hi (hi.eval hn.1) hs hn.2
    obtain ⟨F', h3⟩ := RepL_sub h2 off i.size
    rw [hc] at h3
    obtain rfl := RepL.noF hf h3
    have hly := RepL_length h3
    refine ⟨.agg ((ys.drop off).take i.size).toArray, ?_, by unfold Rep; exact ⟨_, rfl, h3.unres hm⟩⟩
    have hcells := run_loadCells_list (P := P) w ⟨b, k + off, .none⟩ ((ys.drop off).take i.size) (fun j v hj => by
      rw [add_lit, Nat.add_assoc]
      refine h1.cell ?_
      rw [List.getElem?_take] at hj
      split at hj
      · rw [List.getElem?_drop] at hj; exact hj
      · cases hj)
    rw [hly, hl] at hcells
    simp only [execOp, ho, e]
    simp only [Instr.loadAt, Instr.sureAddr, loadVar, Sem.run_bind, Sem.run_pure, Result.andThen_ok, isAgg_run hT hi', ha, if_true, (hT.get hi').size, hcells]
end
end Go.Gx
namespace Go.Gx
section
variable {P : Program} {o : Oper} {N t : Nat} {st : St} {T : Tab}
theorem RepT_nilF_get {w : World} {S : Nat → Prop} {β : Beta} {ds : List D} {ys : List Value} (h : RepT w S ds β ys []) {i : Nat} {d : D} (hd : ds[i]? = some d) :
    ∃ y, ys[i]? = some y ∧ Rep w S d β y [] := by
  induction ds generalizing ys i with
  | nil => simp at hd
  | cons d' ds ih =>
    unfold RepT at h
    obtain ⟨y, ys1, F1, F2, rfl, e, h1, h2⟩ := h
    simp only [List.nil_eq, List.append_eq_nil_iff] at e
    obtain ⟨rfl, rfl⟩ := e
    cases i with
    | zero => simp at hd; subst hd; exact ⟨y, by simp, h1⟩
    | succ i => simpa using ih h2 (by simpa using hd)
theorem opx_extract {x : Operand} {ix : Nat} {ds : List D} {d : D} (ho : o.op = .extract x ix) (hd : o.dst = some t) (ht : t < N) (hx : evD st x = .tup ds) (hc : ds[ix]? = some d) :
    OpX P o N (needOf st x) [(2 * t, some (.d d))] [] :=
  opx_val hd ht fun Γ g a w S β Fs hi hn => by
    have h1 := hi.eval hn
    rw [hx] at h1
    unfold Rep at h1
    obtain ⟨ys, e, h2⟩ := h1
    obtain ⟨y, hy, h3⟩ := RepT_nilF_get h2 hc
    exact ⟨y, by simp [execOp, ho, e, Instr.extract, hy], h3⟩
theorem opx_not {x : Operand} {b : Bool} {T' : TypeId} (ho : o.op = .unOp .not T' x) (hd : o.dst = some t) (ht : t < N) (hx : evD st x = .v (.bool b)) :
    OpX P o N (needOf st x) [(2 * t, some (.d (.v (.bool (!b)))))] [] :=
  opx_val hd ht fun Γ g a w S β Fs hi hn => by
    have h1 := hi.eval hn
    rw [hx, Rep_v] at h1
    exact ⟨.bool (!b), by simp [execOp, ho, h1.1, Op.unary], by simp [Rep_v]⟩
theorem opx_neg {x : Operand} {k : IntKind} {n : Int} {T' : TypeId} (ho : o.op = .unOp .neg T' x) (hd : o.dst = some t) (ht : t < N) (hx : evD st x = .v (.int k n)) :
    OpX P o N (needOf st x) [(2 * t, some (.d (.v (.int k (k.wrap (0 - n))))))] [] :=
  opx_val hd ht fun Γ g a w S β Fs hi hn => by
    have h1 := hi.eval hn
    rw [hx, Rep_v] at h1
    exact ⟨.int k (k.wrap (0 - n)), by simp [execOp, ho, h1.1, Op.unary, Op.intArith], by simp [Rep_v]⟩
theorem opx_convInt (hT : TabOk P T) {x : Operand} {k k' : IntKind} {n : Int} {s1 s2 : TypeId} {i1 i2 : TI} (ho : o.op = .convert s1 s2 x) (hd : o.dst = some t) (ht : t < N)
    (h1' : T.get s1 = some i1) (h2' : T.get s2 = some i2) (hk : i2.desc = .int k') (hx : evD st x = .v (.int k n)) :
    OpX P o N (needOf st x) [(2 * t, some (.d (.v (.int k' (k'.wrap n)))))] [] :=
  opx_val hd ht fun Γ g a w S β Fs hi hn => by
    have h1 := hi.eval hn
    rw [hx, Rep_v] at h1
    refine ⟨_, ?_, by rw [Rep_v]; exact ⟨rfl, rfl⟩⟩
    have e1 := (hT.get h1').und w
    have e2 := (hT.get h2').und w
    rw [hk] at e2
    simp only [execOp, ho, h1.1, convert]
    cases hd1 : i1.desc <;> simp [e1, e2, hd1, Conv.intToInt]
theorem opx_makeFunc {f : FuncId} {caps : Array Operand} (ho : o.op = .makeFunc (.func f) #[] caps) (hd : o.dst = some t) (ht : t < N)
    (hm : ∀ x ∈ caps.toList, hasRoots st (dRoot (evD st x)) = true) (hk : ∀ x ∈ caps.toList, (match evD st x with | .rp _ _ => true | .pt _ _ => true | _ => false) = true) :
    OpX P o N (needAll st caps.toList ++ caps.toList.flatMap fun x => needRoots st (dRoot (evD st x))) [(2 * t, some (.d (.fn f (caps.toList.map (evD st)))))] [] :=
  opx_val hd ht fun Γ g a w S β Fs hi hn => by
    rw [Needs.append] at hn
    refine ⟨.func (.func f) #[] (caps.map a.eval), by simp [execOp, ho, Instr.makeFunc], ?_⟩
    unfold Rep
    refine ⟨caps.toList.map a.eval, by rw [show caps.map a.eval = (caps.toList.map a.eval).toArray from by apply Array.ext'; simp], ?_⟩
    generalize caps.toList = l at *
    clear ho
    induction l with
    | nil => unfold RepL; exact ⟨rfl, rfl⟩
    | cons x l ih =>
      simp only [needAll, List.flatMap_cons, Needs.append] at hn
      have h1 := hi.eval hn.1.1
      refine RepL_cons (F1 := []) (F2 := []) ?_ h1 (ih (fun y hy => hm y (by simp [hy])) (fun y hy => hk y (by simp [hy])) ⟨hn.1.2, hn.2.2⟩)
      have h2 := hk x (by simp)
      have h3 := hi.root_known (hm x (by simp)) hn.2.1
      generalize evD st x = d at *
      cases d <;> simp at h2
      case rp r off =>
        unfold Rep at h1
        cases e : β r with
        | none => exact absurd e (h3 r (by simp [dRoot]))
        | nil => rw [e] at h1; exact h1.2.elim
        | blk b o' sz m => rw [e] at h1; rw [h1.2]; rfl
      case pt ds off =>
        unfold Rep at h1
        obtain ⟨_, _, b, o', ys, e, _⟩ := h1
        rw [e]; rfl
theorem opx_makeMeth {f : FuncId} {caps : Array Operand} (ho : o.op = .makeFunc (.func f) caps #[]) (hd : o.dst = some t) (ht : t < N)
    (hm : ∀ x ∈ caps.toList, hasRoots st (dRoot (evD st x)) = true) (hk : ∀ x ∈ caps.toList, (match evD st x with | .rp _ _ => true | .pt _ _ => true | _ => false) = true) :
    OpX P o N (needAll st caps.toList ++ caps.toList.flatMap fun x => needRoots st (dRoot (evD st x))) [(2 * t, some (.d (.fm f (caps.toList.map (evD st)))))] [] :=
  opx_val hd ht fun Γ g a w S β Fs hi hn => by
    rw [Needs.append] at hn
    refine ⟨.func (.func f) (caps.map a.eval) #[], by simp [execOp, ho, Instr.makeFunc], ?_⟩
    unfold Rep
    refine ⟨caps.toList.map a.eval, by rw [show caps.map a.eval = (caps.toList.map a.eval).toArray from by apply Array.ext'; simp], ?_⟩
    generalize caps.toList = l at *
    clear ho
    induction l with
    | nil => unfold RepL; exact ⟨rfl, rfl⟩
    | cons x l ih =>
      simp only [needAll, List.flatMap_cons, Needs.append] at hn
      have h1 := hi.eval hn.1.1
      refine RepL_cons (F1 := []) (F2 := []) ?_ h1 (ih (fun y hy => hm y (by simp [hy])) (fun y hy => hk y (by simp [hy])) ⟨hn.1.2, hn.2.2⟩)
      have h2 := hk x (by simp)
      have h3 := hi.root_known (hm x (by simp)) hn.2.1
      generalize evD st x = d at *
      cases d <;> simp at h2
      case rp r off =>
        unfold Rep at h1
        cases e : β r with
        | none => exact absurd e (h3 r (by simp [dRoot]))
        | nil => rw [e] at h1; exact h1.2.elim
        | blk b o' sz m => rw [e] at h1; rw [h1.2]; rfl
      case pt ds off =>
        unfold Rep at h1
        obtain ⟨_, _, b, o', ys, e, _⟩ := h1
        rw [e]; rfl
def dLen : D → Option Int
  | .rs _ _ n => some n
  | .sl n _ _ => some n
  | .v (.string s) => some s.size
  | .v (.slice _ n _) => some n
  | .v (.map none) => some 0
  | _ => none
def lenable : TypeDesc → D → Bool
  | .slice _, .rs _ _ _ => true
  | .slice _, .sl _ _ _ => true
  | .slice _, .v (.slice _ _ _) => true
  | .string, .v (.string _) => true
  | .map _ _, .v (.map none) => true
  | _, _ => false
theorem opx_len (hT : TabOk P T) {x : Operand} {s : TypeId} {i : TI} {n : Int} (ho : o.op = .call ⟨.builtin .len, #[x], #[s]⟩) (hd : o.dst = some t) (ht : t < N)
    (hi' : T.get s = some i) (hl : lenable i.desc (evD st x) = true) (hx : dLen (evD st x) = some n) (hr : hasRoots st (dRoot (evD st x)) = true) :
    OpX P o N (needOf st x ++ needRoots st (dRoot (evD st x))) [(2 * t, some (.d (.v (.int .i64 n))))] [] :=
  opx_val hd ht fun Γ g a w S β Fs hi hn => by
    rw [Needs.append] at hn
    have h1 := hi.eval hn.1
    have h3 := hi.root_known hr hn.2
    have e1 := (hT.get hi').und w
    refine ⟨.int .i64 n, ?_, by simp [Rep_v]⟩
    simp only [execOp, ho]
    simp only [resolve, Sem.run_bind, Sem.run_pure, Result.andThen_ok, invoke, builtin]
    generalize evD st x = d at *
    generalize hdd : i.desc = dd at *
    unfold lenable at hl
    split at hl <;> simp at hl
    · rename_i r off m
      simp [dLen] at hx; subst hx
      unfold Rep at h1
      cases e : β r with
      | none => exact absurd e (h3 r (by simp [dRoot]))
      | nil => rw [e] at h1; obtain ⟨_, rfl, _, e2⟩ := h1; simp [Builtin.len_, e1, e2, goInt]
      | blk b o' sz m =>
        rw [e] at h1; obtain ⟨_, cap, e2, _⟩ := h1
        simp [Builtin.len_, e1, e2, goInt]
    · rename_i m off ds
      simp [dLen] at hx; subst hx
      unfold Rep at h1
      obtain ⟨_, _, aa, cap, e2, _⟩ := h1
      simp [Builtin.len_, e1, e2, goInt]
    · simp [dLen] at hx; subst hx
      rw [Rep_v] at h1
      simp [Builtin.len_, e1, h1.1, goInt]
    · simp [dLen] at hx; subst hx
      rw [Rep_v] at h1
      simp [Builtin.len_, e1, h1.1, goInt]
    · simp [dLen] at hx; subst hx
      rw [Rep_v] at h1
      simp [Builtin.len_, e1, h1.1, goInt]
theorem opx_max2 {x y : Operand} {k : IntKind} {m n : Int} {ts : Array TypeId} (ho : o.op = .call ⟨.builtin .max, #[x, y], ts⟩) (hd : o.dst = some t) (ht : t < N)
    (hx : evD st x = .v (.int k m)) (hy : evD st y = .v (.int k n)) :
    OpX P o N (needOf st x ++ needOf st y) [(2 * t, some (.d (.v (.int k (if n > m then n else m)))))] [] :=
  opx_val hd ht fun Γ g a w S β Fs hi hn => by
    rw [Needs.append] at hn
    have h1 := hi.eval hn.1
    have h2 := hi.eval hn.2
    rw [hx, Rep_v] at h1
    rw [hy, Rep_v] at h2
    refine ⟨_, ?_, by rw [Rep_v]; exact ⟨rfl, rfl⟩⟩
    simp only [execOp, ho]
    simp [resolve, invoke, builtin, Builtin.max_, Builtin.max2, h1.1, h2.1]
theorem opx_min2 {x y : Operand} {k : IntKind} {m n : Int} {ts : Array TypeId} (ho : o.op = .call ⟨.builtin .min, #[x, y], ts⟩) (hd : o.dst = some t) (ht : t < N)
    (hx : evD st x = .v (.int k m)) (hy : evD st y = .v (.int k n)) :
    OpX P o N (needOf st x ++ needOf st y) [(2 * t, some (.d (.v (.int k (if n < m then n else m)))))] [] :=
  opx_val hd ht fun Γ g a w S β Fs hi hn => by
    rw [Needs.append] at hn
    have h1 := hi.eval hn.1
    have h2 := hi.eval hn.2
    rw [hx, Rep_v] at h1
    rw [hy, Rep_v] at h2
    refine ⟨_, ?_, by rw [Rep_v]; exact ⟨rfl, rfl⟩⟩
    simp only [execOp, ho]
    simp [resolve, invoke, builtin, Builtin.min_, Builtin.min2, h1.1, h2.1]
theorem opx_sliceRs (hT : TabOk P T) {x h m : Operand} {s E : TypeId} {i j : TI} {r n : Nat} {k1 k2 : IntKind} {e1 e2 : Int} (ho : o.op = .slice s x none (some h) (some m)) (hd : o.dst = some t) (ht : t < N)
    (hs : T.get s = some i) (he : i.desc = .slice E) (hj : T.get E = some j) (hx : evD st x = .rs r 0 n) (hh : evD st h = .v (.int k1 e1)) (hm : evD st m = .v (.int k2 e2)) (h1 : e1 = (n : Int)) (h2 : e2 = (n : Int)) (hr : hasRoots st (dRoot (evD st x)) = true) :
    OpX P o N (needOf st x ++ (needOf st h ++ (needOf st m ++ needRoots st (dRoot (evD st x))))) [(2 * t, some (.d (.rs r 0 n)))] [] :=
  opx_val hd ht fun Γ g a w S β Fs hi hn => by
    rw [Needs.append, Needs.append, Needs.append] at hn
    have q1 := hi.eval hn.1
    have q2 := hi.eval hn.2.1
    have q3 := hi.eval hn.2.2.1
    have h3 := hi.root_known hr hn.2.2.2
    rw [hx] at q1 h3
    rw [hh, Rep_v] at q2
    rw [hm, Rep_v] at q3
    subst h1 h2
    have u := (hT.get hs).und w
    have sz := (hT.get hj).size w
    rw [he] at u
    unfold Rep at q1
    cases e : β r with
    | none => exact absurd e (h3 r (by simp [dRoot]))
    | nil =>
      rw [e] at q1
      obtain ⟨_, rfl, _, e2⟩ := q1
      refine ⟨.slice none 0 0, ?_, by unfold Rep; rw [e]; exact ⟨rfl, rfl, rfl, rfl⟩⟩
      simp [execOp, ho, e2, q2.1, q3.1, Instr.sliceAt, Instr.slice, Instr.sliceBounds, Instr.sliceBound, asIntOf, u, sz]
    | blk b o' sz' m' =>
      rw [e] at q1
      obtain ⟨_, cap, e2, hc1, hc2⟩ := q1
      refine ⟨.slice (some ⟨b, o' + 0, .none⟩) n n, ?_, by unfold Rep; rw [e]; exact ⟨rfl, n, rfl, Nat.le_refl _, by have := Nat.mul_le_mul_right sz' hc1; omega⟩⟩
      simp [execOp, ho, e2, q2.1, q3.1, Instr.sliceAt, Instr.slice, Instr.sliceBounds, Instr.sliceBound, asIntOf, u, sz, hc1, Addr.add]
def partOf (T : Tab) (ft off : Nat) (ds : List D) : Option D :=
  match T.get ft with
  | some j => if isAggD j.desc then (if ((ds.drop off).take j.size).length == j.size then some (.agg ((ds.drop off).take j.size)) else none) else ds[off]?
  | none => none
theorem RepL_subNil {w : World} {S : Nat → Prop} {β : Beta} {ds : List D} {ys : List Value} (h : RepL w S ds β ys []) (i n : Nat) : RepL w S ((ds.drop i).take n) β ((ys.drop i).take n) [] := by
  have hl := RepL_length h
  have e : ds = ds.take i ++ ((ds.drop i).take n ++ (ds.drop i).drop n) := by rw [List.take_append_drop, List.take_append_drop]
  rw [e] at h
  obtain ⟨ya, y2, Fa, F2, rfl, e1, h1, h2⟩ := RepL_append h
  obtain ⟨rfl, rfl⟩ := List.append_eq_nil_iff.1 e1.symm
  obtain ⟨yb, yc, Fb, Fc, rfl, e2, h3, h4⟩ := RepL_append h2
  obtain ⟨rfl, rfl⟩ := List.append_eq_nil_iff.1 e2.symm
  have l1 := RepL_length h1
  have l3 := RepL_length h3
  have l4 := RepL_length h4
  simp only [List.length_take, List.length_drop, List.length_append] at l1 l3 l4 hl
  have : (List.drop i (ya ++ (yb ++ yc))).take n = yb := by
    by_cases hi : i ≤ ds.length
    · rw [List.drop_append_of_le_length (by omega), List.drop_of_length_le (by omega), List.nil_append]
      by_cases hn : n ≤ ds.length - i
      · rw [List.take_append_of_le_length (by omega), List.take_of_length_le (by omega)]
      · have : yc = [] := List.eq_nil_of_length_eq_zero (by omega)
        rw [this, List.append_nil, List.take_of_length_le (by omega)]
    · have hb : yb = [] := List.eq_nil_of_length_eq_zero (by omega)
      have hc : yc = [] := List.eq_nil_of_length_eq_zero (by omega)
      rw [hb, hc]
      simp only [List.append_nil]
      rw [List.drop_of_length_le (by omega)]; simp
  rw [this]
  exact h3
theorem part_rep (hT : TabOk P T) {ft off : Nat} {ds : List D} {d : D} (h : partOf T ft off ds = some d) {w : World} {S : Nat → Prop} {β : Beta} {ys : List Value} (hr : RepL w S ds β ys []) :
    ∃ y, (part ft ys.toArray off).run P w = .ok y w ∧ Rep w S d β y [] := by
  unfold partOf at h
  split at h
  · rename_i j hj
    split at h
    · rename_i ha
      split at h
      · rename_i hl
        cases h
        have hl := beq_iff_eq.1 hl
        have h3 := RepL_subNil hr off j.size
        refine ⟨.agg ((ys.drop off).take j.size).toArray, ?_, by unfold Rep; exact ⟨_, rfl, h3⟩⟩
        simp [part, isAgg_run hT hj, ha, (hT.get hj).size, List.extract_toArray, List.extract]
      · cases h
    · rename_i ha
      obtain ⟨y, hy, _, h3⟩ := RepL_nilF_get hr h
      refine ⟨y, ?_, h3⟩
      simp [part, isAgg_run hT hj, ha, hy]
  · cases h
def fieldPt (T : Tab) (s f : Nat) : Option (Nat × Nat) :=
  match T.get s with
  | some i => match i.desc with
    | .struct fs => match fs[f]? with
      | some fl => some (fl.type, fl.offset)
      | none => none
    | _ => none
  | none => none
theorem opx_field (hT : TabOk P T) {s f ft off : Nat} {x : Operand} {ds : List D} {d : D} (ho : o.op = .field s x f) (hd : o.dst = some t) (ht : t < N)
    (hf : fieldPt T s f = some (ft, off)) (hx : evD st x = .agg ds) (hp : partOf T ft off ds = some d) : OpX P o N (needOf st x) [(2 * t, some (.d d))] [] :=
  opx_val hd ht fun Γ g a w S β Fs hi hn => by
    have h1 := hi.eval hn
    rw [hx] at h1
    unfold Rep at h1
    obtain ⟨ys, e, h1⟩ := h1
    obtain ⟨y, hy, h2⟩ := part_rep hT hp h1
    refine ⟨y, ?_, h2⟩
    unfold fieldPt at hf
    split at hf
    · rename_i i hi'
      split at hf
      · rename_i fs hfs
        split at hf
        · rename_i fl hfl
          cases hf
          have u := (hT.get hi').und w
          rw [hfs] at u
          simp [execOp, ho, e, Instr.field, u, hfl, asAgg, hy]
        · cases hf
      · cases hf
    · cases hf
theorem opx_indexArr (hT : TabOk P T) {s E len : Nat} {i j : TI} {x y : Operand} {ds : List D} {d : D} {k : IntKind} {n : Int} (ho : o.op = .index s x y) (hd : o.dst = some t) (ht : t < N)
    (hs : T.get s = some i) (hi' : i.desc = .array len E) (hj : T.get E = some j) (hx : evD st x = .agg ds) (hy : evD st y = .v (.int k n)) (h0 : 0 ≤ n) (h1' : n < (len : Int)) (hp : partOf T E (n.toNat * j.size) ds = some d) :
    OpX P o N (needOf st x ++ needOf st y) [(2 * t, some (.d d))] [] :=
  opx_val hd ht fun Γ g a w S β Fs hi hn => by
    rw [Needs.append] at hn
    have h1 := hi.eval hn.1
    have h2 := hi.eval hn.2
    rw [hx] at h1
    rw [hy, Rep_v] at h2
    unfold Rep at h1
    obtain ⟨ys, e, h1⟩ := h1
    obtain ⟨z, hz, h3⟩ := part_rep hT hp h1
    refine ⟨z, ?_, h3⟩
    have u := (hT.get hs).und w
    rw [hi'] at u
    have sz := (hT.get hj).size w
    simp [execOp, ho, e, h2.1, Instr.index, asIntOf, u, h0, h1', sz, hz]
def notIface : TypeDesc → Bool
  | .interface _ => false
  | _ => true
theorem opx_makeIface (hT : TabOk P T) {s : Nat} {i : TI} {x : Operand} (ho : o.op = .makeInterface s x) (hd : o.dst = some t) (ht : t < N) (hs : T.get s = some i) (hi' : notIface i.desc = true) :
    OpX P o N (needOf st x) [(2 * t, some (.d (.ifc s (evD st x))))] [] :=
  opx_val hd ht fun Γ g a w S β Fs hi hn => by
    have h1 := hi.eval hn
    refine ⟨.iface s (a.eval x), ?_, by unfold Rep; exact ⟨_, rfl, h1⟩⟩
    have u := (hT.get hs).und w
    generalize hdd : i.desc = dd at *
    cases dd <;> first | (simp [execOp, ho, Instr.makeInterface, u]; done) | (exact absurd hi' (by simp [notIface]))
theorem opx_sliceSl (hT : TabOk P T) {x h : Operand} {s E : TypeId} {i j : TI} {n off : Nat} {ds : List D} {k1 : IntKind} {e1 : Int} (ho : o.op = .slice s x none (some h) none) (hd : o.dst = some t) (ht : t < N)
    (hs : T.get s = some i) (he : i.desc = .slice E) (hj : T.get E = some j) (hx : evD st x = .sl n off ds) (hh : evD st h = .v (.int k1 e1)) (h1 : 0 ≤ e1) (h2 : e1 ≤ (n : Int)) :
    OpX P o N (needOf st x ++ needOf st h) [(2 * t, some (.d (.sl e1.toNat off ds)))] [] :=
  opx_val hd ht fun Γ g a w S β Fs hi hn => by
    rw [Needs.append] at hn
    have q1 := hi.eval hn.1
    have q2 := hi.eval hn.2
    rw [hx] at q1
    rw [hh, Rep_v] at q2
    have u := (hT.get hs).und w
    have sz := (hT.get hj).size w
    rw [he] at u
    unfold Rep at q1
    obtain ⟨_, hmn, aa, cap, e2, hc, q1⟩ := q1
    refine ⟨.slice aa e1.toNat cap, ?_, by
      unfold Rep
      refine ⟨rfl, hmn, aa, cap, rfl, by omega, ?_⟩
      rcases q1 with q1 | q1
      · exact .inl (by omega)
      · exact .inr q1⟩
    have hcap : e1 ≤ (cap : Int) := by omega
    cases aa with
    | none => simp [execOp, ho, e2, q2.1, Instr.sliceAt, Instr.slice, Instr.sliceBounds, Instr.sliceBound, asIntOf, u, sz, h1, hcap]
    | some aa =>
      obtain ⟨b, o', sp⟩ := aa
      simp [execOp, ho, e2, q2.1, Instr.sliceAt, Instr.slice, Instr.sliceBounds, Instr.sliceBound, asIntOf, u, sz, h1, hcap, Addr.add]
end
end Go.Gx
namespace Go.Gx
theorem upd_cons (g : X) (k : Nat) (e : Option Ent) (r : Wr) : upd g ((k, e) :: r) = upd (upd g r) [(k, e)] := by
  funext q; simp [upd]
theorem ext_alloc (w : World) (o : Obj) : Ext w (w.alloc o) noF :=
  ⟨rfl, rfl, rfl, by simp, fun b hb _ => RowKit.Below.heap_alloc w o b hb⟩
theorem Ext.trans {w0 w w' : World} {F : Nat → Prop} (h : Ext w0 w F) (h' : Ext w w' F) : Ext w0 w' F :=
  ⟨h'.os.trans h.os, h'.tape.trans h.tape, h'.output.trans h.output, Nat.le_trans h.size h'.size,
    fun b hb hn => (h'.kept b (Nat.lt_of_lt_of_le hb h.size) hn).trans (h.kept b hb hn)⟩
theorem alloc_new (w : World) (o : Obj) : (w.alloc o).heap[w.heap.size]? = some o := heap_alloc_new w o
def D.cellish : D → Bool
  | .any => false
  | .agg _ => false
  | .tup _ => false
  | .fr _ _ _ => false
  | .v x => x.oneCell'
  | _ => true
theorem Rep.cellish {w : World} {S : Nat → Prop} {β : Beta} {d : D} {y : Value} {F : List Nat} (hc : d.cellish = true) (hb : ∀ r ∈ dRoot d, β r ≠ .none) (h : Rep w S d β y F) : y.oneCell' = true := by
  cases d <;> simp [D.cellish] at hc
  case v x => rw [Rep_v] at h; rw [h.1]; exact hc
  case sl n off ds => unfold Rep at h; obtain ⟨_, _, a, cap, rfl, _⟩ := h; rfl
  case pt ds off => unfold Rep at h; obtain ⟨_, _, b, o', ys, rfl, _⟩ := h; rfl
  case rs r off n =>
    unfold Rep at h
    cases e : β r with
    | none => exact absurd e (hb r (by simp [dRoot]))
    | nil => rw [e] at h; obtain ⟨_, _, _, rfl⟩ := h; rfl
    | blk b o' sz m => rw [e] at h; obtain ⟨_, cap, rfl, _⟩ := h; rfl
  case rp r off =>
    unfold Rep at h
    cases e : β r with
    | none => exact absurd e (hb r (by simp [dRoot]))
    | nil => rw [e] at h; exact h.2.elim
    | blk b o' sz m => rw [e] at h; rw [h.2]; rfl
  case fn f caps => unfold Rep at h; obtain ⟨ys, rfl, _⟩ := h; rfl
  case fm f caps => unfold Rep at h; obtain ⟨ys, rfl, _⟩ := h; rfl
  case ifc t d => unfold Rep at h; obtain ⟨x, rfl, _⟩ := h; rfl
  case rm r =>
    unfold Rep at h
    cases e : β r with
    | none => exact absurd e (hb r (by simp [dRoot]))
    | nil => rw [e] at h; exact h.2.elim
    | blk b o' sz m => rw [e] at h; rw [h.2]; rfl
  case bm es => unfold Rep at h; obtain ⟨_, b, rfl, _⟩ := h; rfl
  case fb f caps => unfold Rep at h; obtain ⟨_, _, ys, rfl, _⟩ := h; rfl
  case fc f caps => unfold Rep at h; obtain ⟨_, _, ys, rfl, _⟩ := h; rfl
theorem Rep.toRes {w : World} {S : Nat → Prop} {β : Beta} {refs : List Nat} {d : D} {y : Value} {F : List Nat} (hs : subRefs d.men refs = true) (h : Rep w S d β y F) : Rep w S d (β.res refs) y F :=
  Rep.beta d y F (fun r hr => by
    have := List.all_eq_true.1 hs r hr
    unfold Beta.res; rw [if_pos this]) h
theorem RepL.toRes {w : World} {S : Nat → Prop} {β : Beta} {refs : List Nat} {ds : List D} {ys : List Value} {F : List Nat} (hs : subRefs (menL ds) refs = true) (h : RepL w S ds β ys F) : RepL w S ds (β.res refs) ys F :=
  RepL.beta ds ys F (fun r hr => by
    have := List.all_eq_true.1 hs r hr
    unfold Beta.res; rw [if_pos this]) h
section
variable {P : Program} {o : Oper} {N t : Nat} {st : St} {T : Tab}
theorem Inv.newBlk (mk : Nat) {Γ : Ctx} {g : X} {a : Act} {w : World} {S : Nat → Prop} {β : Beta} {Fs : Nat → List Nat} {r sz : Nat} {cells : List D} {refs : List Nat} {ys rest : List Value} {E : TypeId} {d : D} {y : Value}
    (h : Inv Γ g a w S β Fs) (ht : t < Γ.N) (hnp : Γ.np ≤ r) (hf : FreshName g r) (hr : refs.contains r = false) (hx : RepL w S cells (β.res refs) ys []) (hms : ∀ m ∈ menL cells, refs.contains m = true)
    (hd : Rep (w.alloc (.cells (ys ++ rest).toArray E (fzOf (ys ++ rest).length mk))) S d (setB β r (.blk w.heap.size 0 sz (ys ++ rest).length)) y []) :
    Inv Γ (upd g [(2 * t, some (.d d)), (2 * r + 1, some (.r (.arr sz cells refs)))]) (a.put (some t) y) (w.alloc (.cells (ys ++ rest).toArray E (fzOf (ys ++ rest).length mk))) S
      (setB β r (.blk w.heap.size 0 sz (ys ++ rest).length)) (setF Fs r [w.heap.size]) := by
  have h1 := h.world (ext_alloc w (.cells (ys ++ rest).toArray E (fzOf (ys ++ rest).length mk)))
  have hnS : ¬ S w.heap.size := fun hs => Nat.lt_irrefl _ (h.sOk _ hs).1
  have hx' : RepL (w.alloc (.cells (ys ++ rest).toArray E (fzOf (ys ++ rest).length mk))) S cells ((setB β r (.blk w.heap.size 0 sz (ys ++ rest).length)).res refs) ys [] := by
    rw [res_setB hr]
    exact RepL.mono (fun b hb => RowKit.Below.heap_alloc _ _ _ (h.sOk b hb).1) (fun _ h => h) cells _ ys [] (by simp) hx
  have h2 := h1.newRoot (x := .arr sz cells refs) (rb := .blk w.heap.size 0 sz (ys ++ rest).length) (F := [w.heap.size]) hnp hf
    ⟨rfl, [], ys, rest, (E, mk), [], by simpa using alloc_new w _, by simp, rfl, rfl, hx', hms⟩ (by simp)
    (fun b hb => by
      obtain rfl := List.mem_singleton.1 hb
      exact ⟨hnS, by simp, .inr h.ext.size, fun q hq => Nat.lt_irrefl _ (h.own q _ hq).2.1⟩)
  rw [upd_cons]
  exact h2.put ht hd
theorem opx_newM (mk : Nat) {need : List (Nat × Ent)} {r sz : Nat} {cells : List D} {refs : List Nat} {d : D} (hdst : o.dst = some t) (ht : t < N) (hr : refs.contains r = false) (hms : ∀ m ∈ menL cells, refs.contains m = true)
    (h : ∀ Γ g a w S β Fs, Inv Γ g a w S β Fs → Needs g need → ∃ y ys rest E, (execOp a.eval o).run P w = .ok (.value y) (w.alloc (.cells (ys ++ rest).toArray E (fzOf (ys ++ rest).length mk))) ∧ RepL w S cells (β.res refs) ys [] ∧
      Rep (w.alloc (.cells (ys ++ rest).toArray E (fzOf (ys ++ rest).length mk))) S d (setB β r (.blk w.heap.size 0 sz (ys ++ rest).length)) y []) :
    OpX P o N need [(2 * t, some (.d d)), (2 * r + 1, some (.r (.arr sz cells refs)))] [r] := by
  intro Γ hN g a w K Q hs hn hfr hK
  obtain ⟨S, β, Fs, hi⟩ := hs
  obtain ⟨y, ys, rest, E, hrun, hc, hd⟩ := h Γ g a w S β Fs hi hn
  unfold Oper.wp
  rw [hrun]
  show K (a.put o.dst y) _
  rw [hdst]
  exact hK _ _ ⟨S, _, _, hi.newBlk mk (by omega) (hfr r (by simp)).1 (hfr r (by simp)).2 hr hc hms hd⟩
theorem opx_new {need : List (Nat × Ent)} {r sz : Nat} {cells : List D} {refs : List Nat} {d : D} (hdst : o.dst = some t) (ht : t < N) (hr : refs.contains r = false) (hms : ∀ m ∈ menL cells, refs.contains m = true)
    (h : ∀ Γ g a w S β Fs, Inv Γ g a w S β Fs → Needs g need → ∃ y ys rest E, (execOp a.eval o).run P w = .ok (.value y) (w.alloc (.cells (ys ++ rest).toArray E)) ∧ RepL w S cells (β.res refs) ys [] ∧
      Rep (w.alloc (.cells (ys ++ rest).toArray E)) S d (setB β r (.blk w.heap.size 0 sz (ys ++ rest).length)) y []) :
    OpX P o N need [(2 * t, some (.d d)), (2 * r + 1, some (.r (.arr sz cells refs)))] [r] :=
  opx_newM 0 hdst ht hr hms h
theorem RepL_vals {w : World} {S : Nat → Prop} {β : Beta} : ∀ (l : List Value), (∀ y ∈ l, y.oneCell' = true) → RepL w S (l.map D.v) β l []
  | [], _ => RepL_nil
  | y :: l, h => RepL_cons (F1 := []) (F2 := []) (h y (by simp)) (by rw [Rep_v]; exact ⟨rfl, rfl⟩) (RepL_vals l fun z hz => h z (by simp [hz]))
theorem menL_vals : ∀ (l : List Value), menL (l.map D.v) = []
  | [] => rfl
  | y :: l => by simp [menL, D.men, menL_vals l]
def oneAll (l : List Value) : Bool := l.all (·.oneCell')
theorem opx_alloc (hT : TabOk P T) {r : Nat} {E : TypeId} {i : TI} (ho : o.op = .alloc E) (hd : o.dst = some t) (ht : t < N) (hi' : T.get E = some i) (h1 : oneAll i.zero = true) :
    OpX P o N [] [(2 * t, some (.d (.rp r 0))), (2 * r + 1, some (.r (.arr 1 (i.zero.map D.v) [])))] [r] :=
  opx_new hd ht rfl (by rw [menL_vals]; simp) fun Γ g a w S β Fs hi hn => by
    obtain ⟨z, hz, he⟩ := (hT.get hi').zeroV w
    refine ⟨.pointer (some ⟨w.heap.size, 0, .none⟩), i.zero, [], E, ?_, ?_, ?_⟩
    · have : z.cells = i.zero.toArray := by apply Array.ext'; simpa using he
      simp [execOp, ho, Instr.alloc, hz, newVar, newRow, this]
    · exact RepL_vals _ (fun y hy => List.all_eq_true.1 h1 y hy)
    · unfold Rep; simp [setB]
def dCells : D → List D
  | .agg ds => ds
  | d => [d]
theorem cells_rep {w : World} {S : Nat → Prop} {β : Beta} {d : D} {y : Value} (h : Rep w S d β y []) (hc : (dCells d).all D.cellish = true) (hb : ∀ r ∈ menL (dCells d), β r ≠ .none) :
    ∃ ys, y.cells = ys.toArray ∧ RepL w S (dCells d) β ys [] := by
  by_cases ha : ∃ ds, d = .agg ds
  · obtain ⟨ds, rfl⟩ := ha
    unfold Rep at h
    obtain ⟨ys, rfl, h⟩ := h
    exact ⟨ys, rfl, h⟩
  · have e : dCells d = [d] := by cases d <;> simp [dCells] at *
    rw [e] at hc hb ⊢
    simp at hc
    have h1 : y.oneCell' = true := h.cellish hc (fun r hr => hb r (by
      cases d <;> simp [dRoot] at hr <;> subst hr <;> simp [menL, D.men]))
    refine ⟨[y], ?_, RepL_cons (F1 := []) (F2 := []) h1 h RepL_nil⟩
    cases y <;> simp [Value.oneCell'] at h1 <;> rfl
theorem opx_box {r : Nat} {E : TypeId} {x : Operand} (ho : o.op = .box E x) (hd : o.dst = some t) (ht : t < N)
    (hc : (dCells (evD st x)).all D.cellish = true) (hr : hasRoots st (menL (dCells (evD st x))) = true) (hf : (menL (dCells (evD st x))).contains r = false) :
    OpX P o N (needOf st x ++ needRoots st (menL (dCells (evD st x)))) [(2 * t, some (.d (.rp r 0))), (2 * r + 1, some (.r (.arr 1 (dCells (evD st x)) (menL (dCells (evD st x))))))] [r] :=
  opx_new hd ht hf (fun m hm => List.contains_iff_mem.2 hm) fun Γ g a w S β Fs hi hn => by
    rw [Needs.append] at hn
    obtain ⟨ys, e, h⟩ := cells_rep (hi.eval hn.1) hc (hi.root_known hr hn.2)
    refine ⟨.pointer (some ⟨w.heap.size, 0, .none⟩), ys, [], E, ?_, h.toRes ?_, ?_⟩
    · simp [execOp, ho, Instr.box, newVar, newRow, e]
    · exact List.all_eq_true.2 fun r hr => List.contains_iff_mem.2 hr
    · unfold Rep; simp [setB]
def repl (n : Nat) (zs : List Value) : List D := (List.replicate n (zs.map D.v)).flatten
theorem repl_eq (n : Nat) (zs : List Value) : repl n zs = ((List.replicate n zs).flatten).map D.v := by simp [repl, List.map_flatten]
theorem menL_repl (n : Nat) (zs : List Value) : menL (repl n zs) = [] := by rw [repl_eq, menL_vals]
theorem range_mod (zs : List Value) (hz : 0 < zs.length) : ∀ n, ((Array.range (n * zs.length)).map (zs.toArray[· % zs.toArray.size]!)).toList = (List.replicate n zs).flatten := by
  intro n
  apply List.ext_getElem?
  intro i
  have hlen : (List.replicate n zs).flatten.length = n * zs.length := by simp [List.length_flatten]
  by_cases hi : i < n * zs.length
  · have h1 : i % zs.length < zs.length := Nat.mod_lt _ hz
    simp only [Array.toList_map, Array.toList_range, List.getElem?_map, List.getElem?_range, hi, Option.map_some, List.size_toArray]
    have : ∀ n i, i < n * zs.length → (List.replicate n zs).flatten[i]? = zs[i % zs.length]? := by
      intro n
      induction n with
      | zero => intro i hi; simp at hi
      | succ n ih =>
        intro i hi
        rw [List.replicate_succ, List.flatten_cons]
        by_cases hl : i < zs.length
        · rw [List.getElem?_append_left hl, Nat.mod_eq_of_lt hl]
        · rw [List.getElem?_append_right (by omega), ih (i - zs.length) (by rw [Nat.add_mul] at hi; omega)]
          congr 1
          rw [Nat.mod_eq_sub_mod (a := i) (by omega)]
    rw [this n i hi]
    simp [h1]
  · rw [List.getElem?_eq_none (by simp; omega), List.getElem?_eq_none (by omega)]
theorem opx_make (hT : TabOk P T) {r : Nat} {s E : TypeId} {i j : TI} {x y : Operand} {n c : Int} (ho : o.op = .makeSlice s x y) (hd : o.dst = some t) (ht : t < N)
    (hs : T.get s = some i) (he : i.desc = .slice E) (hj : T.get E = some j) (hz : j.zero.length = j.size) (h1 : oneAll j.zero = true) (hsz : 0 < j.size)
    (hx : evD st x = .v (.int .i64 n)) (hy : evD st y = .v (.int .i64 c)) (hn0 : 0 ≤ n) (hnc : n ≤ c) (hcb : c < 281474976710656) (hb : (j.bytes : Int) * c ≤ 281474976710656) :
    OpX P o N (needOf st x ++ needOf st y) [(2 * t, some (.d (.rs r 0 n.toNat))), (2 * r + 1, some (.r (.arr j.size (repl n.toNat j.zero) [])))] [r] :=
  opx_new hd ht rfl (by rw [menL_repl]; simp) fun Γ g a w S β Fs hi hn => by
    rw [Needs.append] at hn
    have e1 := hi.eval hn.1
    have e2 := hi.eval hn.2
    rw [hx, Rep_v] at e1
    rw [hy, Rep_v] at e2
    obtain ⟨z, hzr, hze⟩ := (hT.get hj).zeroV w
    obtain ⟨inf, hinf, hby, _⟩ := (hT.get hj).info w
    have hzc : z.cells = j.zero.toArray := by apply Array.ext'; simpa using hze
    have hw : ∀ m : Int, 0 ≤ m → m < 281474976710656 → IntKind.i64.wrap m = m := fun m h0 h1 => IntWalk.i64_in m (by omega)
    have hsplit : (List.replicate c.toNat j.zero).flatten = (List.replicate n.toNat j.zero).flatten ++ (List.replicate (c.toNat - n.toNat) j.zero).flatten := by
      rw [← List.flatten_append, List.replicate_append_replicate]; congr 2; omega
    refine ⟨.slice (some ⟨w.heap.size, 0, .none⟩) n.toNat c.toNat, (List.replicate n.toNat j.zero).flatten, (List.replicate (c.toNat - n.toNat) j.zero).flatten, E, ?_, ?_, ?_⟩
    · rw [← hsplit]
      have hcells : ∀ q : Nat, 0 < q → ((Array.range (q * j.zero.length)).map (j.zero.toArray[· % j.zero.toArray.size]!)) = (List.replicate q j.zero).flatten.toArray := by
        intro q _; apply Array.ext'; rw [range_mod _ (by omega)]
      have hwn := hw n hn0 (by omega)
      have hwc := hw c (by omega) hcb
      simp only [execOp, ho, e1.1, e2.1]
      simp only [Instr.makeSlice, (hT.get hs).und, he, Sem.run_bind, Result.andThen_ok, asInt, asIntOf, Sem.run_pure, hinf, hwn, hwc, hby]
      have t1 : (decide (c < 0) || decide ((j.bytes : Int) * c > 2 ^ 48)) = false := by simp; omega
      have t2 : (decide (n < 0)) = false := by simp; omega
      have t3 : (decide (n > c)) = false := by simp; omega
      simp only [t1, t2, t3, Bool.or_false, Bool.false_eq_true, if_false, Sem.run_bind, run_askRoom, Result.andThen_ok, (hT.get hj).size]
      by_cases hc0 : c.toNat * j.size = 0
      · have : c.toNat = 0 := by rcases Nat.mul_eq_zero.1 hc0 with h | h <;> omega
        simp [this, newRow]
        congr 2
        apply Array.ext'
        simp
      · simp only [hc0, if_false, Sem.run_bind, hzr, Result.andThen_ok, Sem.run_pure, hzc]
        have := hcells c.toNat (by rcases Nat.eq_zero_or_pos c.toNat with h | h; · simp [h] at hc0
                                   · exact h)
        rw [hz] at this
        simp only [newRow, this, Sem.run_bind, run_newObj, Result.andThen_ok, Sem.run_pure, World.alloc_eq]
    · have : repl n.toNat j.zero = ((List.replicate n.toNat j.zero).flatten).map D.v := by
        simp [repl, List.map_flatten]
      rw [this]
      refine RepL_vals _ fun y hy => ?_
      obtain ⟨l, hl, hy⟩ := List.mem_flatten.1 hy
      obtain rfl := (List.mem_replicate.1 hl).2
      exact List.all_eq_true.1 h1 y hy
    · unfold Rep
      refine ⟨rfl, ?_⟩
      simp only [setB, if_true]
      refine ⟨c.toNat, by simp, by omega, ?_⟩
      rw [← hsplit]
      simp [List.length_flatten, hz]
end
end Go.Gx
namespace Go.Gx
def dFill (place : Nat → Option (Nat × Nat)) : List D → List (Nat × D) → Option (List D)
  | cells, [] => some cells
  | cells, (i, d) :: r => match place i with
    | some (off, size) => if (dCells d).length = size ∧ off + size ≤ cells.length then dFill place (cells.take off ++ dCells d ++ cells.drop (off + size)) r else none
    | none => none
theorem foldl_splice (off : Nat) (vs cs : List Value) (h : off + vs.length ≤ cs.length) :
    (vs.toArray.zipIdx.foldl (fun cs (x : Value × Nat) => cs.setIfInBounds (off + x.2) x.1) cs.toArray) = (cs.take off ++ vs ++ cs.drop (off + vs.length)).toArray := by
  obtain ⟨h1, h2⟩ := Great.foldl_set off vs 0 cs.toArray
  have e : vs.toArray.zipIdx.foldl (fun cs (x : Value × Nat) => cs.setIfInBounds (off + x.2) x.1) cs.toArray = (vs.zipIdx 0).foldl (fun cs (x : Value × Nat) => cs.setIfInBounds (off + x.2) x.1) cs.toArray := by
    rw [← Array.foldl_toList, Array.toList_zipIdx]
  rw [e]
  apply Array.ext_getElem?
  intro k
  rw [h2 k]
  simp only [Nat.add_zero, List.size_toArray, List.getElem?_toArray, List.append_assoc]
  by_cases hk : k < off
  · rw [if_neg (by omega), List.getElem?_append_left (by simp; omega)]
    simp [hk]
  · rw [List.getElem?_append_right (by simp; omega)]
    simp only [List.length_take, Nat.min_eq_left (show off ≤ cs.length by omega)]
    by_cases hk2 : k < off + vs.length
    · rw [if_pos (by omega), List.getElem?_append_left (by omega)]
    · rw [if_neg (by omega), List.getElem?_append_right (by omega), List.getElem?_drop]
      congr 1; omega
section
variable {w : World} {S : Nat → Prop} {β : Beta}
inductive PartsRep (w : World) (S : Nat → Prop) (β : Beta) : List (Nat × D) → List (Nat × Value) → Prop
  | nil : PartsRep w S β [] []
  | cons {i : Nat} {d : D} {y : Value} {ys : List Value} {l : List (Nat × D)} {l' : List (Nat × Value)} (e : y.cells = ys.toArray) (h : RepL w S (dCells d) β ys []) (r : PartsRep w S β l l') :
      PartsRep w S β ((i, d) :: l) ((i, y) :: l')
theorem fill_rep {place : Nat → Option (Nat × Nat)} {parts : List (Nat × D)} {pv : List (Nat × Value)} (hp : PartsRep w S β parts pv) : ∀ {cells cells' : List D} {ys : List Value},
    RepL w S cells β ys [] → dFill place cells parts = some cells' → ∃ zs : List Value, Instr.fill place ys.toArray pv = some zs.toArray ∧ RepL w S cells' β zs [] := by
  induction hp with
  | nil => intro cells cells' ys h hf; simp [dFill] at hf; subst hf; exact ⟨ys, rfl, h⟩
  | @cons i d y vs l l' e hd hr ih =>
    intro cells cells' ys h hf
    unfold dFill at hf
    split at hf
    · rename_i off size hpl
      split at hf
      · rename_i hc
        have l1 := RepL_length hd
        have l2 := RepL_length h
        have hspl : RepL w S (cells.take off ++ dCells d ++ cells.drop (off + size)) β (ys.take off ++ vs ++ ys.drop (off + vs.length)) [] := by
          have a1 := RepL_sub h 0 off
          have a2 := RepL_sub h (off + size) cells.length
          obtain ⟨F1, a1⟩ := a1
          obtain ⟨F2, a2⟩ := a2
          simp only [List.drop_zero] at a1
          rw [List.take_of_length_le (by simp), List.take_of_length_le (by simp; omega)] at a2
          have nf : ∀ (i n : Nat) (F' : List Nat), RepL w S ((cells.drop i).take n) β ((ys.drop i).take n) F' → RepL w S ((cells.drop i).take n) β ((ys.drop i).take n) [] := by
            intro i n F' _
            have e : cells = cells.take i ++ ((cells.drop i).take n ++ (cells.drop i).drop n) := by rw [List.take_append_drop, List.take_append_drop]
            have h' := h
            rw [e] at h'
            obtain ⟨ya, y2, Fa, F2, e1, e2, h1, h2⟩ := RepL_append h'
            obtain ⟨yb, yc, Fb, Fc, rfl, rfl, h3, h4⟩ := RepL_append h2
            simp only [List.nil_eq, List.append_eq_nil_iff] at e2
            obtain ⟨rfl, rfl, rfl⟩ := e2
            have l1 := RepL_length h1
            have l3 := RepL_length h3
            have l4 := RepL_length h4
            simp at l1 l3 l4
            have : (ys.drop i).take n = yb := by
              subst e1
              by_cases hi : i ≤ cells.length
              · have : ya.length = i := by omega
                rw [← this, List.drop_left]
                by_cases hn : n ≤ cells.length - i
                · have : yb.length = n := by omega
                  rw [← this, List.take_left]
                · have : yc = [] := by apply List.eq_nil_of_length_eq_zero; omega
                  subst this; simp; rw [List.take_of_length_le]; omega
              · have hb : yb = [] := by apply List.eq_nil_of_length_eq_zero; omega
                have hcc : yc = [] := by apply List.eq_nil_of_length_eq_zero; omega
                subst hb hcc
                simp; right; omega
            rw [this]; exact h3
          have b1 := nf 0 off F1 (by simpa using a1)
          have b2 := nf (off + size) cells.length F2 (by rw [List.take_of_length_le (by simp), List.take_of_length_le (by simp; omega)]; exact a2)
          simp only [List.drop_zero] at b1
          rw [List.take_of_length_le (by simp), List.take_of_length_le (by simp; omega)] at b2
          rw [l1, hc.1]
          have := RepL_append_mk (RepL_append_mk b1 hd) b2
          simpa using this
        obtain ⟨zs, hz, hrz⟩ := ih hspl hf
        refine ⟨zs, ?_, hrz⟩
        unfold Instr.fill
        rw [hpl]
        simp only [e, List.size_toArray]
        rw [if_neg (by simp only [ne_eq, Bool.or_eq_true, decide_eq_true_eq, not_or]; constructor <;> (simp; omega))]
        rw [foldl_splice off vs ys (by omega)]
        exact hz
      · cases hf
    · cases hf
end
section
variable {P : Program} {o : Oper} {N t : Nat} {st : St} {T : Tab}
def partD (st : St) (parts : List (Nat × Operand)) : List (Nat × D) := parts.map fun p => (p.1, evD st p.2)
def partOps (parts : List (Nat × Operand)) : List Operand := parts.map (·.2)
def partMen (st : St) (parts : List (Nat × Operand)) : List Nat := parts.flatMap fun p => menL (dCells (evD st p.2))
def partNeed (st : St) (parts : List (Nat × Operand)) : List (Nat × Ent) := needAll st (partOps parts) ++ needRoots st (partMen st parts)
theorem needRoots_append {st : St} {g : X} : ∀ {l l' : List Nat}, Needs g (needRoots st (l ++ l')) ↔ Needs g (needRoots st l) ∧ Needs g (needRoots st l')
  | [], _ => by simp [needRoots, Needs]
  | r :: l, l' => by simp [needRoots, Needs.append, needRoots_append (l := l), and_assoc]
theorem hasRoots_append {st : St} : ∀ {l l' : List Nat}, hasRoots st (l ++ l') = (hasRoots st l && hasRoots st l')
  | [], _ => by simp [hasRoots]
  | r :: l, l' => by simp [hasRoots, hasRoots_append (l := l), Bool.and_assoc]
theorem parts_rep {Γ : Ctx} {g : X} {a : Act} {w : World} {S : Nat → Prop} {β : Beta} {Fs : Nat → List Nat} (hi : Inv Γ g a w S β Fs) :
    ∀ {parts : List (Nat × Operand)}, Needs g (partNeed st parts) → hasRoots st (partMen st parts) = true → (parts.all fun p => (dCells (evD st p.2)).all D.cellish) = true →
      PartsRep w S β (partD st parts) (parts.map fun p => (p.1, a.eval p.2))
  | [], _, _, _ => .nil
  | (i, x) :: parts, hn, hr, hc => by
    simp only [partNeed, partOps, partMen, List.map_cons, needAll, List.flatMap_cons, Needs.append, needRoots_append] at hn
    simp only [partMen, List.flatMap_cons, hasRoots_append, Bool.and_eq_true] at hr
    simp only [List.all_cons, Bool.and_eq_true] at hc
    obtain ⟨ys, e, h⟩ := cells_rep (hi.eval hn.1.1) hc.1 (hi.root_known hr.1 hn.2.1)
    exact .cons e h (parts_rep hi (by simp only [partNeed, Needs.append]; exact ⟨hn.1.2, hn.2.2⟩) hr.2 hc.2)
def placesOf (T : Tab) : List Field → Option (List (Nat × Nat))
  | [] => some []
  | f :: fs => match T.get f.type, placesOf T fs with
    | some j, some l => some ((f.offset, j.size) :: l)
    | _, _ => none
theorem places_ok (hT : TabOk P T) : ∀ {fs : List Field} {l : List (Nat × Nat)}, placesOf T fs = some l → fs.mapM (fun f => (P.info? f.type).map fun i => (f.offset, i.size)) = some l
  | [], l, h => by simp [placesOf] at h; subst h; rfl
  | f :: fs, l, h => by
    unfold placesOf at h
    split at h
    · rename_i j l' h1 h2
      cases h
      obtain ⟨_, inf, z, e1, e2, _⟩ := hT.get h1
      simp [List.mapM_cons, e1, e2, places_ok hT h2]
    · cases h
def placeOf (T : Tab) : TypeDesc → Option (Nat → Option (Nat × Nat))
  | .struct fs => (placesOf T fs.toList).map fun l i => l[i]?
  | .array _ e => (T.get e).map fun j i => some (i * j.size, j.size)
  | _ => none
theorem opx_build (hT : TabOk P T) {s : TypeId} {i : TI} {parts : Array (Nat × Operand)} {pl : Nat → Option (Nat × Nat)} {cells : List D} (ho : o.op = .build s parts) (hd : o.dst = some t) (ht : t < N)
    (hs : T.get s = some i) (hp : placeOf T i.desc = some pl) (h1 : oneAll i.zero = true) (hr : hasRoots st (partMen st parts.toList) = true)
    (hc : (parts.toList.all fun p => (dCells (evD st p.2)).all D.cellish) = true) (hf : dFill pl (i.zero.map D.v) (partD st parts.toList) = some cells) :
    OpX P o N (partNeed st parts.toList) [(2 * t, some (.d (.agg cells)))] [] :=
  opx_val hd ht fun Γ g a w S β Fs hi hn => by
    obtain ⟨zs, hz, hrz⟩ := fill_rep (parts_rep hi hn hr hc) (RepL_vals i.zero fun y hy => List.all_eq_true.1 h1 y hy) hf
    obtain ⟨hu, inf, z, e1, e2, e3, e4, e5⟩ := hT.get hs
    have hzc : z.cells = i.zero.toArray := by apply Array.ext'; simpa using e5
    refine ⟨.agg zs.toArray, ?_, by unfold Rep; exact ⟨zs, rfl, hrz⟩⟩
    have hb : P.built s (parts.map fun (i, x) => (i, a.eval x)).toList = some zs.toArray := by
      have hl : (parts.map fun (i, x) => (i, a.eval x)).toList = parts.toList.map fun p => (p.1, a.eval p.2) := by simp
      unfold Program.built
      rw [e1, hu, hl]
      unfold placeOf at hp
      cases hdd : i.desc <;> rw [hdd] at hp <;> simp only [reduceCtorEq] at hp
      case struct fs =>
        cases hpp : placesOf T fs.toList with
        | none => rw [hpp] at hp; cases hp
        | some l =>
          rw [hpp] at hp; cases hp
          simp only [e4, places_ok hT hpp, hzc]
          simpa using hz
      case array n e =>
        cases hj : T.get e with
        | none => rw [hj] at hp; cases hp
        | some j =>
          rw [hj] at hp; cases hp
          obtain ⟨_, inf2, z2, f1, f2, _⟩ := hT.get hj
          simp only [e4, f1, f2, hzc]
          exact hz
    simp only [execOp, ho, Sem.run_bind, run_build w s _ _ hb, Result.andThen_ok, Sem.run_pure]
theorem opx_buildSlice (hT : TabOk P T) {r : Nat} {s E : TypeId} {i j : TI} {len : Nat} {parts : Array (Nat × Operand)} {cells : List D} (ho : o.op = .buildSlice s len parts) (hd : o.dst = some t) (ht : t < N)
    (hs : T.get s = some i) (he : i.desc = .slice E) (hj : T.get E = some j) (hz : j.zero.length = j.size) (h1 : oneAll j.zero = true) (hsz : 0 < j.size) (hsm : len * j.size ≤ 16777216)
    (hr : hasRoots st (partMen st parts.toList) = true) (hc : (parts.toList.all fun p => (dCells (evD st p.2)).all D.cellish) = true)
    (hf : dFill (fun q => some (q * j.size, j.size)) (repl len j.zero) (partD st parts.toList) = some cells) (hm : (partMen st parts.toList).contains r = false) (hsub : subRefs (menL cells) (partMen st parts.toList) = true) :
    OpX P o N (partNeed st parts.toList) [(2 * t, some (.d (.rs r 0 len))), (2 * r + 1, some (.r (.arr j.size cells (partMen st parts.toList))))] [r] :=
  opx_new hd ht hm (fun m hm => List.all_eq_true.1 hsub m hm) fun Γ g a w S β Fs hi hn => by
    have hrv : RepL w S (repl len j.zero) β (List.replicate len j.zero).flatten [] := by
      have : repl len j.zero = ((List.replicate len j.zero).flatten).map D.v := by simp [repl, List.map_flatten]
      rw [this]
      refine RepL_vals _ fun y hy => ?_
      obtain ⟨l, hl, hy⟩ := List.mem_flatten.1 hy
      obtain rfl := (List.mem_replicate.1 hl).2
      exact List.all_eq_true.1 h1 y hy
    obtain ⟨zs, hzf, hrz⟩ := fill_rep (parts_rep hi hn hr hc) hrv hf
    obtain ⟨_, inf, z, e1, e2, e3, e4, e5⟩ := hT.get hj
    have hu := (hT.get hs).1
    rw [he] at hu
    have hzc : z.cells = j.zero.toArray := by apply Array.ext'; simpa using e5
    refine ⟨.slice (some ⟨w.heap.size, 0, .none⟩) len len, zs, [], E, ?_, hrz.toRes hsub, ?_⟩
    · have hl : (parts.map fun (i, x) => (i, a.eval x)).toList = parts.toList.map fun p => (p.1, a.eval p.2) := by simp
      have hcells : ((Array.range (len * j.size)).map (j.zero.toArray[· % j.zero.toArray.size]!)) = (List.replicate len j.zero).flatten.toArray := by
        apply Array.ext'; rw [← hz, range_mod _ (by omega)]
      simp only [execOp, ho, Sem.run_bind, List.append_nil]
      by_cases hl0 : len * j.size = 0
      · have hlen : len = 0 := by rcases Nat.mul_eq_zero.1 hl0 with h | h <;> omega
        subst hlen
        simp only [List.replicate_zero, List.flatten_nil] at hzf
        have hzf' : Instr.fill (fun q => some (q * j.size, j.size)) #[] (parts.map fun (i, x) => (i, a.eval x)).toList = some zs.toArray := by rw [hl]; exact hzf
        have er : ((Array.range 0).map fun i => (#[] : Array Value)[i % (#[] : Array Value).size]!) = #[] := by apply Array.ext'; simp
        simp only [Instr.buildSlice, run_underlying hu, sizeOf, typeInfo, e1, e2, Sem.run_bind, run_program, Result.andThen_ok, Sem.run_pure, Nat.zero_mul, Nat.not_lt_zero, GT.gt, if_false, if_true, er, hzf', newRow, run_newObj, World.alloc_eq]
      · have hfl : Instr.fill (fun i => some (i * inf.size, inf.size)) ((Array.range (len * inf.size)).map (z.cells[· % z.cells.size]!)) (parts.map fun (i, x) => (i, a.eval x)).toList = some zs.toArray := by
          rw [e2, hzc, hcells, hl]; exact hzf
        rw [run_buildSlice w s E len _ zs.toArray inf z hu e1 e4 (by rw [e2]; omega) (by rw [e2]; exact hl0) hfl]
        rfl
    · unfold Rep
      refine ⟨rfl, ?_⟩
      simp only [setB, if_true]
      refine ⟨len, by simp, Nat.le_refl _, ?_⟩
      have := RepL_length hrz
      have hlc : cells.length = len * j.size := by
        have : ∀ (parts : List (Nat × D)) (c c' : List D) (pl : Nat → Option (Nat × Nat)), dFill pl c parts = some c' → c'.length = c.length := by
          intro parts
          induction parts with
          | nil => intro c c' pl h; simp [dFill] at h; rw [h]
          | cons p parts ih =>
            intro c c' pl h
            obtain ⟨i, d⟩ := p
            unfold dFill at h
            split at h
            · split at h
              · rename_i hh; rw [ih _ _ _ h]; simp; omega
              · cases h
            · cases h
        rw [this _ _ _ _ hf]
        simp [repl, List.length_flatten, hz]
      simp
      omega
end
end Go.Gx
namespace Go.Gx
section
variable {Γ : Ctx} {g : X} {a : Act} {w w' : World} {S : Nat → Prop} {β : Beta} {Fs : Nat → List Nat}
theorem Inv.setRoot {r b : Nat} {x : Root} {F : List Nat} (h : Inv Γ g a w S β Fs) (hw : ∀ q, q ≠ b → w'.heap[q]? = w.heap[q]?) (hsz : w'.heap.size = w.heap.size)
    (hos : w'.os = w.os) (htp : w'.tape = w.tape) (hout : w'.output = w.output) (hb : b ∈ Fs r) (hx : RootRep w' S β x (β r) F) (hsub : ∀ q ∈ F, q ∈ Fs r) (hn : F.Nodup) :
    Inv Γ (upd g [(2 * r + 1, some (.r x))]) a w' S β (setF Fs r F) := by
  have hbS : ¬ S b := (h.own r b hb).1
  have hS : ∀ q, S q → w'.heap[q]? = w.heap[q]? := fun q hq => hw q (by rintro rfl; exact hbS hq)
  have hF : ∀ r', r' ≠ r → ∀ q ∈ Fs r', w'.heap[q]? = w.heap[q]? := fun r' hr q hq => hw q (by rintro rfl; exact h.disj r' r hr q hq hb)
  exact {
    defers := h.defers
    size := h.size
    slots := fun t d ht => by
      rw [upd_one, if_neg (by omega)] at ht
      exact Rep.mono hS (fun _ h => h) d β _ [] (by simp) (h.slots t d ht)
    roots := fun q z hq => by
      rw [upd_one] at hq
      by_cases e : q = r
      · subst e; simp at hq; subst hq; simpa [setF] using hx
      · rw [if_neg (by omega)] at hq
        simp only [setF, if_neg e]
        exact RootRep.mono hS (fun _ h => h) (hF q e) (h.roots q z hq)
    noroot := fun q hq => by
      by_cases e : q = r
      · subst e; exact absurd (by rw [upd_one, if_pos rfl]) (hq x)
      · simp only [setF, if_neg e]
        exact h.noroot q (fun z hz => hq z (by rw [upd_one, if_neg (by omega)]; exact hz))
    nodup := fun q => by unfold setF; split; exact hn; exact h.nodup q
    disj := fun q q' hne c hc hc' => by
      unfold setF at hc hc'
      split at hc <;> split at hc'
      · omega
      · rename_i e e'; subst e; exact h.disj q q' hne c (hsub c hc) hc'
      · rename_i e e'; subst e'; exact h.disj q q' hne c hc (hsub c hc')
      · exact h.disj q q' hne c hc hc'
    own := fun q c hc => by
      unfold setF at hc
      rw [hsz]
      split at hc
      · rename_i e; subst e; exact h.own q c (hsub c hc)
      · exact h.own q c hc
    s0 := h.s0
    sOk := fun c hc => by rw [hsz]; exact h.sOk c hc
    ext := ⟨hos.trans h.ext.os, htp.trans h.ext.tape, hout.trans h.ext.output, by rw [hsz]; exact h.ext.size,
      fun c hc hn => (hw c (by
        rintro rfl
        rcases (h.own r c hb).2.2 with h1 | h1
        · exact hn h1
        · omega)).trans (h.ext.kept c hc hn)⟩
    fix := h.fix }
theorem Inv.dropRoot {r : Nat} (h : Inv Γ g a w S β Fs) : Inv Γ (upd g [(2 * r + 1, none)]) a w S β (setF Fs r []) where
  defers := h.defers
  size := h.size
  slots := fun t d ht => by
    rw [upd_one, if_neg (by omega)] at ht
    exact h.slots t d ht
  roots := fun q z hq => by
    rw [upd_one] at hq
    by_cases e : q = r
    · subst e; simp at hq
    · rw [if_neg (by omega)] at hq
      simp only [setF, if_neg e]
      exact h.roots q z hq
  noroot := fun q hq => by
    by_cases e : q = r
    · subst e; simp [setF]
    · simp only [setF, if_neg e]
      exact h.noroot q (fun z hz => hq z (by rw [upd_one, if_neg (by omega)]; exact hz))
  nodup := fun q => by unfold setF; split; exact List.nodup_nil; exact h.nodup q
  disj := fun q q' hne c hc hc' => by
    unfold setF at hc hc'
    split at hc <;> split at hc' <;> simp_all
    exact h.disj q q' hne c hc hc'
  own := fun q c hc => by
    unfold setF at hc
    split at hc
    · simp at hc
    · exact h.own q c hc
  s0 := h.s0
  sOk := h.sOk
  ext := h.ext
  fix := h.fix
end
theorem res_more {β : Beta} {old : List D} {refs more : List Nat} (h : ∀ m ∈ menL old, refs.contains m = true) : ∀ m ∈ menL old, (β.res (refs ++ more)) m = (β.res refs) m := by
  intro m hm
  have := h m hm
  unfold Beta.res
  rw [if_pos this, if_pos (by simp at this ⊢; exact .inl this)]
theorem menL_append : ∀ (a b : List D), menL (a ++ b) = menL a ++ menL b
  | [], _ => rfl
  | d :: a, b => by simp [menL, menL_append a b]
theorem menL_take_sub (ds : List D) (n : Nat) : ∀ m ∈ menL (ds.take n), m ∈ menL ds := by
  intro m hm
  have : menL ds = menL (ds.take n) ++ menL (ds.drop n) := by rw [← menL_append, List.take_append_drop]
  rw [this]; simp [hm]
theorem menL_drop_sub (ds : List D) (n : Nat) : ∀ m ∈ menL (ds.drop n), m ∈ menL ds := by
  intro m hm
  have : menL ds = menL (ds.take n) ++ menL (ds.drop n) := by rw [← menL_append, List.take_append_drop]
  rw [this]; simp [hm]
theorem RepL_splice {w : World} {S : Nat → Prop} {β : Beta} {ds news : List D} {ys vs : List Value} {F : List Nat} {off : Nat} (h : RepL w S ds β ys F) (hn : RepL w S news β vs []) (hle : off + news.length ≤ ds.length) :
    ∃ Fa Fb Fc, F = Fa ++ Fb ++ Fc ∧ RepL w S (ds.take off ++ news ++ ds.drop (off + news.length)) β (ys.take off ++ vs ++ ys.drop (off + news.length)) (Fa ++ Fc) := by
  have e : ds = ds.take off ++ ((ds.drop off).take news.length ++ ds.drop (off + news.length)) := by
    rw [← List.drop_drop, List.take_append_drop, List.take_append_drop]
  have hly := RepL_length h
  rw [e] at h
  obtain ⟨ya, y2, Fa, F2, rfl, rfl, h1, h2⟩ := RepL_append h
  obtain ⟨yb, yc, Fb, Fc, rfl, rfl, h3, h4⟩ := RepL_append h2
  have l1 := RepL_length h1
  have l3 := RepL_length h3
  have l4 := RepL_length h4
  simp at l1 l3 l4
  refine ⟨Fa, Fb, Fc, by simp, ?_⟩
  have e1 : (ya ++ (yb ++ yc)).take off = ya := by
    have : ya.length = off := by omega
    rw [← this, List.take_left]
  have e2 : (ya ++ (yb ++ yc)).drop (off + news.length) = yc := by
    have : (ya ++ yb).length = off + news.length := by simp; omega
    rw [← this, ← List.append_assoc, List.drop_left]
  rw [e1, e2]
  have := RepL_append_mk (RepL_append_mk h1 hn) h4
  simpa using this
theorem RepL.oneCell {w : World} {S : Nat → Prop} {β : Beta} : ∀ {ds : List D} {ys : List Value} {F : List Nat}, RepL w S ds β ys F → ∀ y ∈ ys, y.oneCell' = true
  | [], _, _, h, y, hy => by unfold RepL at h; rw [h.1] at hy; simp at hy
  | d :: ds, _, _, h, y, hy => by
    unfold RepL at h
    obtain ⟨y', ys', F1, F2, rfl, rfl, h0, _, h2⟩ := h
    rcases List.mem_cons.1 hy with rfl | hy
    · exact h0
    · exact RepL.oneCell h2 y hy
section
variable {P : Program} {o : Oper} {N t : Nat} {st : St} {T : Tab}
theorem fzOf_ok (n : Nat) : ∀ k, fzOf n k = (0, 0) ∨ n ≤ (fzOf n k).1
  | 0 => .inl rfl
  | k + 1 => .inr (Nat.le_add_right n k)
theorem setRow_fz {w : World} {b : Nat} {X X' : List Value} {E : TypeId} {k : Nat} (h : w.heap[b]? = some (.cells X.toArray E (fzOf X.length k))) (hl : X'.length = X.length) :
    (w.setRow b X'.toArray).heap[b]? = some (.cells X'.toArray E (fzOf X'.length k)) := by
  rw [hl]; exact setRow_heap w b _ _ E _ h
theorem run_storeCells_fz (P : Program) (g o : Nat) (t : TypeId) (fz : Nat × Nat) : ∀ (vs : List Value) (i : Nat) (cur : Array Value) (w : World), w.heap[g]? = some (.cells cur t fz) → (fz = (0, 0) ∨ cur.size ≤ fz.1) → o + i + vs.length ≤ cur.size → (∀ v ∈ vs, v.oneCell' = true) →
    (storeCells ⟨g, o, .none⟩ vs i).run P w = .ok () (w.setRow g (cur.toList.take (o + i) ++ vs ++ cur.toList.drop (o + i + vs.length)).toArray)
  | [], i, cur, w, hg, _, _, _ => by
    simp only [storeCells, List.append_nil, List.length_nil, Nat.add_zero, List.take_append_drop, Array.toArray_toList]
    rw [setRow_self w g cur t fz hg]
    rfl
  | v :: rest, i, cur, w, hg, hfz, hl, h1 => by
    have hi : o + i < cur.size := by simp at hl; omega
    have hadd : (⟨g, o, .none⟩ : Addr).add i = ⟨g, o + i, .none⟩ := by unfold Addr.add; split <;> simp_all
    have hcell : w.cell? ⟨g, o + i, .none⟩ = some cur[o + i] := by simp [World.cell?, hg, hi]
    have hfro : w.frozen? ⟨g, o + i, .none⟩ = false := by
      obtain ⟨lo, hi'⟩ := fz
      simp only [World.frozen?, hg, Bool.and_eq_false_iff, decide_eq_false_iff_not]
      rcases hfz with hfz | hfz
      · right; have := congrArg Prod.snd hfz; simp only at this; omega
      · left; simp only at hfz; omega
    have hst : (store ((⟨g, o, .none⟩ : Addr).add i) v).run P w = .ok () (w.setRow g (cur.setIfInBounds (o + i) v)) := by
      rw [hadd, run_store P w _ v _ (h1 v (by simp)), hcell]
      simp [hfro, setCell_eq_setRow w g (o + i) cur t fz v hg]
    have ih := run_storeCells_fz P g o t fz rest (i + 1) (cur.setIfInBounds (o + i) v) (w.setRow g (cur.setIfInBounds (o + i) v)) (setRow_heap w g cur _ t _ hg) (by simpa using hfz) (by simp at hl ⊢; omega) (fun x hx => h1 x (by simp [hx]))
    simp only [storeCells, Sem.run_bind, hst, Result.andThen_ok, ih, setRow_setRow]
    congr 3
    have e := list_seg_step cur.toList (o + i) v rest (by simp at hl ⊢; omega)
    simpa [Array.toList_setIfInBounds, Nat.add_assoc] using e
theorem opx_store (hT : TabOk P T) {s : TypeId} {i : TI} {x y : Operand} {r off sz : Nat} {cells : List D} {refs : List Nat} (ho : o.op = .store s x y) (hd : o.dst = none)
    (hs : T.get s = some i) (hx : evD st x = .rp r off) (hl : look st (2 * r + 1) = some (.r (.arr sz cells refs)))
    (hc : (dCells (evD st y)).all D.cellish = true) (hr : hasRoots st (menL (dCells (evD st y))) = true) (hn : (dCells (evD st y)).length = i.size) (hle : off + i.size ≤ cells.length) :
    OpX P o N (needOf st x ++ (needOf st y ++ (needRoot st r ++ needRoots st (menL (dCells (evD st y))))))
      [(2 * r + 1, some (.r (.arr sz (cells.take off ++ dCells (evD st y) ++ cells.drop (off + i.size)) (refs ++ menL (dCells (evD st y))))))] [] := by
  intro Γ hN g a w K Q hsat hneed _ hK
  obtain ⟨S, β, Fs, hi⟩ := hsat
  simp only [Needs.append] at hneed
  obtain ⟨n1, n2, n3, n4⟩ := hneed
  have e1 := hi.eval n1
  rw [hx] at e1
  simp only [needRoot, hl, Needs] at n3
  have hroot := hi.roots r _ n3.1
  obtain ⟨vs, ecells, hvs⟩ := cells_rep (hi.eval n2) hc (hi.root_known hr n4)
  unfold Rep at e1
  cases eb : β r with
  | none => rw [eb] at hroot; exact hroot.ne.elim
  | nil => rw [eb] at e1; exact e1.2.elim
  | blk b o' sz' m =>
    rw [eb] at e1 hroot
    obtain ⟨rfl, pre, ys, rest, E, F', h1, h2, h3, hF, h5, h6⟩ := hroot
    have hly := RepL_length h5
    have hlv := RepL_length hvs
    have hbF : b ∈ Fs r := by rw [hF]; simp
    have hst := run_storeCells_fz P b (o' + off) _ _ vs 0 (pre ++ ys ++ rest).toArray w h1 (fzOf_ok _ _) (by simp; omega) (RepL.oneCell hvs)
    have hrun : (execOp a.eval o).run P w = .ok .skip (w.setRow b (pre ++ (ys.take off ++ vs ++ ys.drop (off + i.size)) ++ rest).toArray) := by
      simp only [execOp, ho, e1.2]
      simp only [Instr.storeAt, Instr.sureAddr, storeVar, Sem.run_bind, Sem.run_pure, Result.andThen_ok, (hT.get hs).size, ecells, List.size_toArray, hlv, hn, ne_eq, not_true_eq_false, if_false, hst]
      congr 3
      simp only [Nat.add_zero]
      have hpl : (pre ++ ys ++ rest).take (o' + off) = pre ++ ys.take off := by
        rw [List.append_assoc, ← h3, List.take_length_add_append, List.take_append_of_le_length (by omega)]
      have hdl : (pre ++ ys ++ rest).drop (o' + off + i.size) = ys.drop (off + i.size) ++ rest := by
        rw [List.append_assoc, ← h3, Nat.add_assoc, List.drop_length_add_append, List.drop_append_of_le_length (by omega)]
      rw [hpl, hdl]
      simp
    unfold Oper.wp
    rw [hrun]
    show K (a.put o.dst undef) _
    rw [hd]
    · have hold := RepL.beta cells ys F' (res_more (β := β) (more := menL (dCells (evD st y))) h6) h5
      have hnew : RepL w S (dCells (evD st y)) (β.res (refs ++ menL (dCells (evD st y)))) vs [] := hvs.toRes (List.all_eq_true.2 fun m hm => by simp [hm])
      obtain ⟨Fa, Fb, Fc, eF, hsp⟩ := RepL_splice hold hnew (by rw [hn]; exact hle)
      rw [hn] at hsp
      have hnd := hi.nodup r
      rw [hF, eF] at hnd
      have hne : ∀ q ∈ Fa ++ Fc, q ≠ b := by
        intro q hq e
        subst e
        simp at hnd hq
        rcases hq with h | h <;> simp_all
      have hw : ∀ q, q ≠ b → (w.setRow b (pre ++ (ys.take off ++ vs ++ ys.drop (off + i.size)) ++ rest).toArray).heap[q]? = w.heap[q]? := fun q hq => setRow_other w b q _ hq
      refine hK _ _ ⟨S, β, _, hi.setRoot (F := b :: (Fa ++ Fc)) hw (by simp) rfl rfl rfl hbF ?_ ?_ ?_⟩
      · rw [eb]
        refine ⟨rfl, pre, _, rest, E, _, setRow_fz h1 (by simp; omega), ?_, h3, rfl, ?_, ?_⟩
        · rw [h2]; simp; omega
        · refine RepL.mono (fun q hq => hw q ?_) (fun _ h => h) _ _ _ _ (fun q hq => hw q (hne q hq)) hsp
          rintro rfl; exact (hi.own r q hbF).1 hq
        · intro m hm
          simp only [menL_append, List.mem_append] at hm
          simp only [List.contains_iff_mem, List.mem_append]
          rcases hm with (hm | hm) | hm
          · exact .inl (by simpa using h6 m (menL_take_sub _ _ m hm))
          · exact .inr hm
          · exact .inl (by simpa using h6 m (menL_drop_sub _ _ m hm))
      · intro q hq
        rw [hF, eF]
        simp at hq ⊢
        rcases hq with h | h | h <;> simp [h]
      · exact List.Nodup.sublist (List.Sublist.cons_cons b (by rw [List.append_assoc]; exact List.Sublist.append (List.Sublist.refl _) (List.sublist_append_right _ _))) hnd
end
end Go.Gx
namespace Go.Gx
open Go.MapKept
def keyB : TypeDesc → Value → Bool
  | .bool, .bool _ => true
  | .int k, .int k' _ => k' == k
  | .string, .string _ => true
  | _, _ => false
theorem keyB_spec {d : TypeDesc} {v : Value} (h : keyB d v = true) : IsKey d v := by
  cases d <;> cases v <;> simp_all [keyB, IsKey]
def intsV : List Value → Option (List Int)
  | [] => some []
  | .int .i64 n :: l => (intsV l).map (n :: ·)
  | _ => none
theorem intsV_eq : ∀ {l : List Value} {x : List Int}, intsV l = some x → l = x.map (Value.int .i64)
  | [], x, h => by simp [intsV] at h; subst h; rfl
  | v :: l, x, h => by
    unfold intsV at h
    split at h
    · rename_i h1; cases h1
    · rename_i n l' h1
      cases h1
      obtain ⟨x', h2, rfl⟩ := Option.map_eq_some_iff.1 h
      rw [intsV_eq h2]; rfl
    · cases h
def sameK : TypeDesc → Value → Value → Option Bool
  | .struct _, .agg a, .agg b => match intsV a.toList, intsV b.toList with
    | some x, some y => if x.length = y.length then some (x == y) else none
    | _, _ => none
  | d, a, b => Instr.sameNow d a b
theorem sameK_plain {d : TypeDesc} {a b : Value} (h : keyB d a = true) : sameK d a b = Instr.sameNow d a b := by
  cases d <;> cases a <;> simp_all [keyB, sameK]
def fndV (kd : TypeDesc) (k : Value) : List (Value × Value) → Option (Option Value)
  | [] => some none
  | e :: es => match sameK kd k e.1 with
    | some true => some (some e.2)
    | some false => fndV kd k es
    | none => none
def putV (kd : TypeDesc) (k v : Value) : List (Value × Value) → List (Value × Value)
  | [] => [(k, v)]
  | e :: es => match sameK kd k e.1 with
    | some true => (k, v) :: es
    | _ => e :: putV kd k v es
def kvOf (e : MapEntry) : Value × Value := (e.key, e.val)
theorem sameNow_eq {d : TypeDesc} {a b : Value} (h : Instr.sameNow d a b = some true) : a = b := by
  cases d <;> cases a <;> cases b <;> simp [Instr.sameNow] at h
  · rw [h]
  · obtain ⟨rfl, rfl⟩ := h; rfl
  · rw [(bytes_beq _ _).1 h]
theorem find_spec {kd : TypeDesc} {k : Value} (hb : keyB kd k = true) : ∀ (l : List MapEntry) (i : Nat) {r : Option Value}, fndV kd k (l.map kvOf) = some r →
    (r = none ∧ Instr.findNow kd k l i = some none ∧ ∀ v, putV kd k v (l.map kvOf) = l.map kvOf ++ [(k, v)]) ∨
    ∃ j e, r = some e.val ∧ Instr.findNow kd k l i = some (some (i + j, e.val)) ∧ l[j]? = some e ∧ e.key = k ∧ ∀ v, putV kd k v (l.map kvOf) = (l.modify j fun e => { e with key := k, val := v }).map kvOf
  | [], i, r, h => by
    simp only [List.map_nil, fndV, Option.some.injEq] at h
    subst h
    exact .inl ⟨rfl, rfl, fun v => rfl⟩
  | e :: es, i, r, h => by
    simp only [List.map_cons, fndV] at h
    have he : (kvOf e).1 = e.key := rfl
    rw [he, sameK_plain hb] at h
    cases hs : Instr.sameNow kd k e.key with
    | none => rw [hs] at h; cases h
    | some b =>
      rw [hs] at h
      have hs' : sameK kd k e.key = some b := by rw [sameK_plain hb, hs]
      cases b with
      | true =>
        simp only [Option.some.injEq] at h
        subst h
        refine .inr ⟨0, e, rfl, by simp [Instr.findNow, hs], rfl, (sameNow_eq hs).symm, fun v => ?_⟩
        simp only [List.map_cons, putV, he, hs', List.modify_cons, if_true]
        rfl
      | false =>
        rcases find_spec hb es (i + 1) h with ⟨h1, h2, h3⟩ | ⟨j, e', h1, h2, h3, h4, h5⟩
        · refine .inl ⟨h1, by simp [Instr.findNow, hs, h2], fun v => ?_⟩
          simp only [List.map_cons, putV, he, hs', h3 v, List.cons_append]
        · refine .inr ⟨j + 1, e', h1, by simp [Instr.findNow, hs, h2]; omega, by simpa using h3, h4, fun v => ?_⟩
          simp only [List.map_cons, putV, he, hs', h5 v, List.modify_succ_cons]
structure KeyAt (P : Program) (kt : TypeId) (kd : TypeDesc) (k : Value) : Prop where
  check : ∀ (e : Bool) (w : World), (Instr.checkKey e 10000 kt k).run P w = .ok () w
  find : ∀ (l : List MapEntry) {r : Option Value}, fndV kd k (l.map kvOf) = some r →
    (r = none ∧ (∀ w, (Instr.findKey kt k l).run P w = .ok none w) ∧ ∀ v, putV kd k v (l.map kvOf) = l.map kvOf ++ [(k, v)]) ∨
    ∃ j e, r = some e.val ∧ (∀ w, (Instr.findKey kt k l).run P w = .ok (some (j, e.val)) w) ∧ l[j]? = some e ∧ e.key = k ∧ ∀ v, putV kd k v (l.map kvOf) = (l.modify j fun e => { e with key := k, val := v }).map kvOf
  stay : ∀ w : World, (Instr.keyThatStays k k).run P w = .ok k w
theorem keyAt_plain {P : Program} {T : Tab} (hT : TabOk P T) {kt : TypeId} {i : TI} {k : Value} (hk : T.get kt = some i) (hb : keyB i.desc k = true) : KeyAt P kt i.desc k := by
  have u : P.underlying kt = some i.desc := (hT.get hk).1
  refine ⟨fun e w => MapKept.run_checkKey u (keyB_spec hb) e 9999, fun l r h => ?_, fun w => MapKept.run_keyThatStays (keyB_spec hb)⟩
  rcases find_spec hb l 0 h with ⟨h1, h2, h3⟩ | ⟨j, e, h1, h2, h3⟩
  · exact .inl ⟨h1, fun w => MapKept.run_findKey u h2, h3⟩
  · rw [Nat.zero_add] at h2
    exact .inr ⟨j, e, h1, fun w => MapKept.run_findKey u h2, h3⟩
def KeyD (d : D) (k : Value) : Prop := ∀ (w : World) (S : Nat → Prop) (β : Beta) (y : Value) (F : List Nat), Rep w S d β y F → y = k ∧ F = []
theorem keyD_v (k : Value) : KeyD (.v k) k := fun w S β y F h => by rw [Rep_v] at h; exact h
def lookD (kd : TypeDesc) (k z : Value) (ok : Bool) (es : List (Value × Value)) : Option D :=
  match fndV kd k es with
  | some (some v) => some (if ok then .tup [.v v, .v (.bool true)] else .v v)
  | some none => some (if ok then .tup [.v z, .v (.bool false)] else .v z)
  | none => none
section
variable {Γ : Ctx} {g : X} {a : Act} {w w' : World} {S : Nat → Prop} {β : Beta} {Fs : Nat → List Nat}
theorem Inv.newMap {t r : Nat} (h : Inv Γ g a w S β Fs) (ht : t < Γ.N) (hnp : Γ.np ≤ r) (hf : FreshName g r) :
    Inv Γ (upd g [(2 * t, some (.d (.rm r))), (2 * r + 1, some (.r (.mp [])))]) (a.put (some t) (.map (some w.heap.size))) (w.alloc (.map #[] 0)) S
      (setB β r (.blk w.heap.size 0 0 0)) (setF Fs r [w.heap.size]) := by
  have h1 := h.world (ext_alloc w (.map #[] 0))
  have hnS : ¬ S w.heap.size := fun hs => Nat.lt_irrefl _ (h.sOk _ hs).1
  have h2 := h1.newRoot (x := .mp []) (rb := .blk w.heap.size 0 0 0) (F := [w.heap.size]) hnp hf
    ⟨rfl, #[], 0, alloc_new w _, rfl⟩ (by simp)
    (fun b hb => by
      obtain rfl := List.mem_singleton.1 hb
      exact ⟨hnS, by simp, .inr h.ext.size, fun q hq => Nat.lt_irrefl _ (h.own q _ hq).2.1⟩)
  rw [upd_cons]
  exact h2.put ht (by unfold Rep; simp [setB])
theorem Inv.mapAt {r : Nat} {es : List (Value × Value)} (h : Inv Γ g a w S β Fs) (hr : g (2 * r + 1) = some (.r (.mp es))) :
    ∃ b o sz m entries clock, β r = .blk b o sz m ∧ Fs r = [b] ∧ w.heap[b]? = some (.map entries clock) ∧ entries.toList.map kvOf = es := by
  have h1 := h.roots r _ hr
  cases eb : β r with
  | none => rw [eb] at h1; exact h1.ne.elim
  | nil => rw [eb] at h1; exact h1.elim
  | blk b o sz m =>
    rw [eb] at h1
    obtain ⟨hF, entries, clock, h2, h3⟩ := h1
    exact ⟨b, o, sz, m, entries, clock, rfl, hF, h2, h3⟩
end
section
variable {P : Program} {o : Oper} {N t : Nat} {st : St} {T : Tab}
theorem opx_makeMap {r : Nat} {s : TypeId} (ho : o.op = .makeMap s none) (hd : o.dst = some t) (ht : t < N) :
    OpX P o N [] [(2 * t, some (.d (.rm r))), (2 * r + 1, some (.r (.mp [])))] [r] := by
  intro Γ hN g a w K Q hs hn hfr hK
  obtain ⟨S, β, Fs, hi⟩ := hs
  have hrun : (execOp a.eval o).run P w = .ok (.value (.map (some w.heap.size))) (w.alloc (.map #[] 0)) := by
    simp [execOp, ho, Instr.makeMap]
  unfold Oper.wp
  rw [hrun]
  show K (a.put o.dst _) _
  rw [hd]
  exact hK _ _ ⟨S, _, _, hi.newMap (by omega) (hfr r (by simp)).1 (hfr r (by simp)).2⟩
theorem run_look (hT : TabOk P T) {s kt et : TypeId} {i : TI} {kd : TypeDesc} {ok : Bool} {kv z : Value} {d : D} {w : World} {S : Nat → Prop} {β : Beta} {b : Nat} {entries : Array MapEntry} {clock : Nat} {es : List (Value × Value)}
    (hs : T.get s = some i) (hm : i.desc = .map kt et) (hK : KeyAt P kt kd kv) (hz : (P.info? et).bind (·.zero) = some z) (hl : lookD kd kv z ok es = some d)
    (hb' : w.heap[b]? = some (.map entries clock)) (he : entries.toList.map kvOf = es) :
    ∃ y, (Instr.lookup s (.map (some b)) kv ok).run P w = .ok y w ∧ Rep w S d β y [] := by
  have u1 : P.underlying s = some (.map kt et) := by rw [(hT.get hs).1, hm]
  have hzr : (zeroValue et).run P w = .ok z w := by
    cases hi' : P.info? et with
    | none => rw [hi'] at hz; cases hz
    | some inf =>
      rw [hi'] at hz
      have hz' : inf.zero = some z := hz
      simp [zeroValue, typeInfo, hi', hz']
  have two : ∀ (v : Value) (c : Bool), Rep w S (.tup [.v v, .v (.bool c)]) β (.tuple #[v, .bool c]) [] := fun v c => by
    unfold Rep; exact ⟨_, rfl, by unfold RepT; exact ⟨_, _, [], [], rfl, rfl, by simp [Rep_v], by unfold RepT; exact ⟨_, _, [], [], rfl, rfl, by simp [Rep_v], by unfold RepT; exact ⟨rfl, rfl⟩⟩⟩⟩
  unfold lookD at hl
  split at hl
  · rename_i v hf
    rw [← he] at hf
    rcases hK.find entries.toList hf with ⟨h1, _⟩ | ⟨j, e, h1, h2, _⟩
    · cases h1
    · cases h1
      cases hl
      refine ⟨if ok then .tuple #[e.val, .bool true] else e.val, ?_, ?_⟩
      · simp only [Instr.lookup, Sem.run_bind, Sem.run_pure, Result.andThen_ok, run_underlying u1, MapKept.run_getObj_map hb', hK.check, h2]
      · cases ok
        · simp [Rep_v]
        · exact two _ _
  · rename_i hf
    rw [← he] at hf
    rcases hK.find entries.toList hf with ⟨_, h2, _⟩ | ⟨j, e, h1, _⟩
    · cases hl
      refine ⟨if ok then .tuple #[z, .bool false] else z, ?_, ?_⟩
      · simp only [Instr.lookup, Sem.run_bind, Sem.run_pure, Result.andThen_ok, run_underlying u1, MapKept.run_getObj_map hb', hK.check, h2, hzr]
      · cases ok
        · simp [Rep_v]
        · exact two _ _
    · cases h1
  · cases hl
theorem opx_lookup (hT : TabOk P T) {s kt et : TypeId} {i : TI} {kd : TypeDesc} {m k : Operand} {ok : Bool} {r : Nat} {es : List (Value × Value)} {kv z : Value} {d dk : D} (ho : o.op = .lookup s m k ok) (hd : o.dst = some t) (ht : t < N)
    (hs : T.get s = some i) (hm : i.desc = .map kt et) (hK : KeyAt P kt kd kv) (hx : evD st m = .rm r) (hy : evD st k = dk) (hkd : KeyD dk kv) (hr : look st (2 * r + 1) = some (.r (.mp es)))
    (hz : (P.info? et).bind (·.zero) = some z) (hl : lookD kd kv z ok es = some d) :
    OpX P o N (needOf st m ++ (needOf st k ++ needRoot st r)) [(2 * t, some (.d d))] [] :=
  opx_val hd ht fun Γ g a w S β Fs hi hn => by
    simp only [Needs.append] at hn
    obtain ⟨n1, n2, n3⟩ := hn
    simp only [needRoot, hr, Needs] at n3
    obtain ⟨b, o', sz, m', entries, clock, eb, _, hb', he⟩ := hi.mapAt n3.1
    have e1 := hi.eval n1
    have e2 := hi.eval n2
    rw [hx] at e1
    rw [hy] at e2
    have e2 := hkd _ _ _ _ _ e2
    unfold Rep at e1
    rw [eb] at e1
    obtain ⟨y, h1, h2⟩ := run_look (S := S) (β := β) hT hs hm hK hz hl hb' he
    exact ⟨y, by simp only [execOp, ho, e1.2, e2.1, Sem.run_bind, h1, Result.andThen_ok, Sem.run_pure], h2⟩
theorem opx_lookupB (hT : TabOk P T) {s kt et : TypeId} {i : TI} {kd : TypeDesc} {m k : Operand} {ok : Bool} {es : List (Value × Value)} {kv z : Value} {d dk : D} (ho : o.op = .lookup s m k ok) (hd : o.dst = some t) (ht : t < N)
    (hs : T.get s = some i) (hm : i.desc = .map kt et) (hK : KeyAt P kt kd kv) (hx : evD st m = .bm es) (hy : evD st k = dk) (hkd : KeyD dk kv)
    (hz : (P.info? et).bind (·.zero) = some z) (hl : lookD kd kv z ok es = some d) :
    OpX P o N (needOf st m ++ needOf st k) [(2 * t, some (.d d))] [] :=
  opx_val hd ht fun Γ g a w S β Fs hi hn => by
    simp only [Needs.append] at hn
    have e1 := hi.eval hn.1
    have e2 := hi.eval hn.2
    rw [hx] at e1
    rw [hy] at e2
    have e2 := hkd _ _ _ _ _ e2
    unfold Rep at e1
    obtain ⟨_, b, e1, _, entries, clock, hb', he⟩ := e1
    obtain ⟨y, h1, h2⟩ := run_look (S := S) (β := β) hT hs hm hK hz hl hb' he
    exact ⟨y, by simp only [execOp, ho, e1, e2.1, Sem.run_bind, h1, Result.andThen_ok, Sem.run_pure], h2⟩
theorem opx_lenMap (hT : TabOk P T) {x : Operand} {s kt et : TypeId} {i : TI} {r : Nat} {es : List (Value × Value)} (ho : o.op = .call ⟨.builtin .len, #[x], #[s]⟩) (hd : o.dst = some t) (ht : t < N)
    (hs : T.get s = some i) (hm : i.desc = .map kt et) (hx : evD st x = .rm r) (hr : look st (2 * r + 1) = some (.r (.mp es))) :
    OpX P o N (needOf st x ++ needRoot st r) [(2 * t, some (.d (.v (.int .i64 (es.length : Int)))))] [] :=
  opx_val hd ht fun Γ g a w S β Fs hi hn => by
    rw [Needs.append] at hn
    obtain ⟨n1, n3⟩ := hn
    simp only [needRoot, hr, Needs] at n3
    obtain ⟨b, o', sz, m', entries, clock, eb, _, hb', he⟩ := hi.mapAt n3.1
    have e1 := hi.eval n1
    rw [hx] at e1
    unfold Rep at e1
    rw [eb] at e1
    have u1 := (hT.get hs).und w
    rw [hm] at u1
    have hl : es.length = entries.size := by rw [← he]; simp
    refine ⟨.int .i64 (es.length : Int), ?_, by simp [Rep_v]⟩
    simp only [execOp, ho]
    simp only [resolve, Sem.run_bind, Sem.run_pure, Result.andThen_ok, invoke, builtin]
    simp [Builtin.len_, u1, e1.2, goInt, MapKept.run_getObj_map hb', hl]
theorem opx_mapUpdate (hT : TabOk P T) {s kt et : TypeId} {i : TI} {kd : TypeDesc} {m k x : Operand} {r : Nat} {es : List (Value × Value)} {kv xv : Value} {dk : D} (ho : o.op = .mapUpdate s m k x) (hd : o.dst = none)
    (hs : T.get s = some i) (hm : i.desc = .map kt et) (hK : KeyAt P kt kd kv) (hx : evD st m = .rm r) (hy : evD st k = dk) (hkd : KeyD dk kv) (hv : evD st x = .v xv) (hr : look st (2 * r + 1) = some (.r (.mp es)))
    (hf : (fndV kd kv es).isSome = true) :
    OpX P o N (needOf st m ++ (needOf st k ++ (needOf st x ++ needRoot st r))) [(2 * r + 1, some (.r (.mp (putV kd kv xv es))))] [] := by
  intro Γ hN g a w K Q hsat hneed _ hK'
  obtain ⟨S, β, Fs, hi⟩ := hsat
  simp only [Needs.append] at hneed
  obtain ⟨n1, n2, n4, n3⟩ := hneed
  simp only [needRoot, hr, Needs] at n3
  obtain ⟨b, o', sz, m', entries, clock, eb, hF, hb', he⟩ := hi.mapAt n3.1
  have e1 := hi.eval n1
  have e2 := hi.eval n2
  have e3 := hi.eval n4
  rw [hx] at e1
  rw [hy] at e2
  have e2 := hkd _ _ _ _ _ e2
  rw [hv, Rep_v] at e3
  unfold Rep at e1
  rw [eb] at e1
  have u1 : P.underlying s = some (.map kt et) := by rw [(hT.get hs).1, hm]
  obtain ⟨q, hq⟩ := Option.isSome_iff_exists.1 hf
  rw [← he] at hq
  have key : ∃ es' clock', (execOp a.eval o).run P w = .ok .skip { w with heap := w.heap.setIfInBounds b (.map es' clock') } ∧ es'.toList.map kvOf = putV kd kv xv es := by
    rcases hK.find entries.toList hq with ⟨_, h2, h3⟩ | ⟨j, e, h1, h2, h3, h4, h5⟩
    · refine ⟨entries.push { key := kv, val := xv, born := clock }, clock + 1, ?_, ?_⟩
      · simp only [execOp, ho, e1.2, e2.1, e3.1]
        simp [Instr.mapUpdate, run_underlying u1, MapKept.run_getObj_map hb', hK.check, h2, MapKept.run_setObj_map _ hb']
      · rw [← he, h3]; simp [kvOf]
    · have hj : entries[j]? = some e := by simpa using h3
      refine ⟨entries.modify j fun e => { e with key := kv, val := xv }, clock, ?_, ?_⟩
      · simp only [execOp, ho, e1.2, e2.1, e3.1]
        simp [Instr.mapUpdate, run_underlying u1, MapKept.run_getObj_map hb', hK.check, h2, hj, h4, hK.stay, MapKept.run_setObj_map _ hb']
      · rw [← he, h5]; simp
  obtain ⟨es', clock', hrun, hes⟩ := key
  unfold Oper.wp
  rw [hrun]
  show K (a.put o.dst undef) _
  rw [hd]
  have hbF : b ∈ Fs r := by rw [hF]; simp
  have hset := MapKept.heap_set (o' := .map es' clock') hb'
  refine hK' _ _ ⟨S, β, _, hi.setRoot (b := b) (F := [b]) (fun q hq => hset.2 q hq) (by simp) rfl rfl rfl hbF ?_ (by rw [hF]; simp) (by simp)⟩
  rw [eb]
  exact ⟨rfl, es', clock', hset.1, hes⟩
end
end Go.Gx
namespace Go.Gx
def Src (w : World) (sz m : Nat) (nv : List Value) (x : Value) : Prop :=
  ∃ a c, x = .slice a m c ∧ nv.length = m * sz ∧ (m = 0 ∨ ∃ ad, a = some ad ∧ ∀ j u, nv[j]? = some u → w.cell? (ad.add j) = some u)
theorem Src.first {P : Program} {w : World} {sz m : Nat} {nv : List Value} {x : Value} (h : Src w sz m nv x) : (Builtin.firstCells sz m x).run P w = .ok nv.toArray w := by
  obtain ⟨a, c, rfl, hl, h⟩ := h
  rcases h with rfl | ⟨ad, rfl, h⟩
  · have : nv = [] := List.eq_nil_of_length_eq_zero (by simpa using hl)
    subst this
    cases a <;> simp [Builtin.firstCells, loadCells, loadCellsFrom]
  · have := run_loadCells_list (P := P) w ad nv h
    rw [hl] at this
    simp [Builtin.firstCells, this]
theorem Src.drew {w : World} {sz m : Nat} {nv : List Value} {x : Value} (h : Src w sz m nv x) : Src w.drew sz m nv x := by
  obtain ⟨a, c, e, hl, h⟩ := h
  exact ⟨a, c, e, hl, h.imp id fun ⟨ad, e, h⟩ => ⟨ad, e, fun j u hj => by simpa using h j u hj⟩⟩
theorem Src.len {P : Program} {w : World} {sz m : Nat} {nv : List Value} {x : Value} (h : Src w sz m nv x) : (Builtin.lenOf x).run P w = .ok m w := by
  obtain ⟨a, c, rfl, hl, h⟩ := h
  simp [Builtin.lenOf]
section
variable {P : Program} {w : World} {s ty E : TypeId} {inf : TypeInfo} {z x : Value} {n m cap : Nat} {nv ov : List Value}
theorem run_append_room' {E' : TypeId} (ht : P.underlying s = some (.slice E)) (hi : P.info? E = some inf) {g o : Nat} {cur : Array Value} {mk : Nat} (hg : w.heap[g]? = some (.cells cur E' (fzOf cur.size mk)))
    (hx : Src w inf.size m nv x) (h1 : ∀ u ∈ nv, u.oneCell' = true) (hroom : n + m ≤ cap) (hfit : o + n * inf.size + nv.length ≤ cur.size) :
    (Builtin.append_ #[s, s] ty #[.slice (some ⟨g, o, .none⟩) n cap, x]).run P w =
      .ok (.slice (some ⟨g, o, .none⟩) (n + m) cap) (w.setRow g (cur.toList.take (o + n * inf.size) ++ nv ++ cur.toList.drop (o + n * inf.size + nv.length)).toArray) := by
  have hst := run_storeCells_fz P g (o + n * inf.size) E' _ nv 0 cur w hg (fzOf_ok _ _) (by simpa using hfit) h1
  simp only [Nat.add_zero] at hst
  have hf := hx.first (P := P)
  have hl := hx.len (P := P)
  have ha : (⟨g, o, .none⟩ : Addr).add (n * inf.size) = ⟨g, o + n * inf.size, .none⟩ := by unfold Addr.add; split <;> simp_all
  simp [Builtin.append_, run_underlying ht, sizeOf, typeInfo, hi, hroom, hl, hf, ha, hst]
theorem run_append_none' (ht : P.underlying s = some (.slice E)) (hi : P.info? E = some inf) (hx : Src w inf.size 0 nv x) :
    (Builtin.append_ #[s, s] ty #[.slice .none 0 0, x]).run P w = .ok (.slice .none 0 0) w := by
  have hf := hx.first (P := P)
  have hl := hx.len (P := P)
  simp [Builtin.append_, run_underlying ht, sizeOf, typeInfo, hi, hl, hf]
theorem run_append_grow' (ht : P.underlying s = some (.slice E)) (hi : P.info? E = some inf) (hz : inf.zero = some z) {b : Option Addr}
    (ho : Src w inf.size n ov (.slice b n cap)) (hx : Src w inf.size m nv x) (hg : cap < n + m) (h63 : ((n + m : Nat) : Int) ≤ 9223372036854775807)
    (hfit : Builtin.nextslicecap (n + m) cap * inf.bytes ≤ 281474976710656) :
    (Builtin.append_ #[s, s] ty #[.slice b n cap, x]).run P w =
      .ok (.slice (some ⟨w.heap.size, 0, .none⟩) (n + m) (grownCap w (n + m) cap E))
        (w.drew.alloc (.cells (ov ++ nv ++ (Builtin.zeroCells z.cells (grownCap w (n + m) cap E - (n + m))).toList).toArray E)) := by
  have hn : ¬ (n + m ≤ cap) := by omega
  have h63' : ¬ (9223372036854775807 < ((n : Int) + (m : Int))) := by omega
  have h48' : ¬ (281474976710656 < Builtin.nextslicecap (n + m) cap * inf.bytes) := by omega
  have hf := hx.drew.first (P := P)
  have hl := hx.len (P := P)
  have hfo := ho.drew.first (P := P)
  simp [Builtin.append_, run_underlying ht, sizeOf, typeInfo, zeroValue, hi, hz, hn, h63', h48', Question.forced, hf, hl, hfo, newRow, grownCap]
  congr 2
  apply Array.ext'
  simp
end
section
variable {Γ : Ctx} {g : X} {a : Act} {w w' : World} {S : Nat → Prop} {β : Beta} {Fs : Nat → List Nat}
theorem Inv.freeWrite {b : Nat} (h : Inv Γ g a w S β Fs) (hw : ∀ q, q ≠ b → w'.heap[q]? = w.heap[q]?) (hsz : w'.heap.size = w.heap.size)
    (hos : w'.os = w.os) (htp : w'.tape = w.tape) (hout : w'.output = w.output) (hbS : ¬ S b) (hbF : ∀ r, b ∉ Fs r) (hb : Γ.F0 b ∨ Γ.w0.heap.size ≤ b) : Inv Γ g a w' S β Fs := by
  have hS : ∀ q, S q → w'.heap[q]? = w.heap[q]? := fun q hq => hw q (by rintro rfl; exact hbS hq)
  have hF : ∀ r, ∀ q ∈ Fs r, w'.heap[q]? = w.heap[q]? := fun r q hq => hw q (by rintro rfl; exact hbF r hq)
  exact {
    defers := h.defers
    size := h.size
    slots := fun t d ht => Rep.mono hS (fun _ h => h) d β _ [] (by simp) (h.slots t d ht)
    roots := fun q z hq => RootRep.mono hS (fun _ h => h) (hF q) (h.roots q z hq)
    noroot := h.noroot
    nodup := h.nodup
    disj := h.disj
    own := fun r c hc => by rw [hsz]; exact h.own r c hc
    s0 := h.s0
    sOk := fun c hc => by rw [hsz]; exact h.sOk c hc
    ext := ⟨hos.trans h.ext.os, htp.trans h.ext.tape, hout.trans h.ext.output, by rw [hsz]; exact h.ext.size,
      fun c hc hn => (hw c (by
        rintro rfl
        rcases hb with h1 | h1
        · exact hn h1
        · omega)).trans (h.ext.kept c hc hn)⟩
    fix := h.fix }
theorem ext_drew (w : World) : Ext w w.drew noF := ⟨rfl, rfl, rfl, Nat.le_refl _, fun _ _ _ => rfl⟩
theorem FreshName.drop {r q : Nat} (h : FreshName g r) : FreshName (upd g [(2 * q + 1, none)]) r := by
  intro k e he
  rw [upd_one] at he
  split at he
  · cases he
  · exact h k e he
end
def appTo (st : St) (sz : Nat) : D → Option (List D × List Nat × Option Nat × Nat)
  | .rs r 0 n => match look st (2 * r + 1) with
    | some (.r (.arr sz' cells refs)) => if sz' = sz then some (cells, refs, some r, n) else none
    | _ => none
  | .v (.slice .none 0 0) => some ([], [], none, 0)
  | _ => none
def appSrc (st : St) (sz : Nat) (mv : Bool) : D → Option (List D × List Nat × Option Nat × Nat)
  | .rs r off n => match look st (2 * r + 1) with
    | some (.r (.arr sz' cells refs)) => if sz' = sz then (if mv then (if off = 0 then some (cells, refs, some r, n) else none) else some ((cells.drop off).take (n * sz), refs, none, n)) else none
    | _ => none
  | .sl n off ds => some ((ds.drop off).take (n * sz), [], none, n)
  | .v (.slice .none 0 0) => some ([], [], none, 0)
  | _ => none
def dropKeys : Option Nat → Wr
  | some r => [(2 * r + 1, none)]
  | none => []
section
variable {P : Program} {o : Oper} {N t : Nat} {st : St} {T : Tab}
theorem menL_dt (ds : List D) (i n : Nat) : ∀ m ∈ menL ((ds.drop i).take n), m ∈ menL ds := fun m hm => menL_drop_sub ds i m (menL_take_sub _ n m hm)
theorem Seg.cellAt {w : World} {b o i : Nat} {ys : List Value} (h : Seg w b o ys) (n : Nat) : ∀ (j : Nat) u, ((ys.drop i).take n)[j]? = some u → w.cell? ((⟨b, o + i, .none⟩ : Addr).add j) = some u := by
  intro j u hj
  rw [add_lit, Nat.add_assoc]
  refine h.cell ?_
  rw [List.getElem?_take] at hj
  split at hj
  · rw [List.getElem?_drop] at hj; exact hj
  · cases hj
def srcOwn (g : X) (Fs : Nat → List Nat) (F : List Nat) : Option Nat → Prop
  | some r => (∃ rt, g (2 * r + 1) = some (.r rt)) ∧ ∀ b ∈ F, b ∈ Fs r
  | none => F = []
theorem src_rep {Γ : Ctx} {g : X} {a : Act} {w : World} {S : Nat → Prop} {β : Beta} {Fs : Nat → List Nat} (hi : Inv Γ g a w S β Fs) {sz m : Nat} {mv : Bool} {d : D} {y : Value} {news : List D} {refs : List Nat} {q : Option Nat}
    (h : Rep w S d β y []) (hs : appSrc st sz mv d = some (news, refs, q, m)) (hlen : news.length = m * sz) (hf : q = none → noFrL news = true ∨ ∃ n off ds, d = .sl n off ds)
    (hn : Needs g (needRoots st (dRoot d))) :
    ∃ nv F, Src w sz m nv y ∧ RepL w S news (β.res refs) nv F ∧ (∀ mm ∈ menL news, refs.contains mm = true) ∧ F.Nodup ∧ srcOwn g Fs F q := by
  unfold appSrc at hs
  split at hs
  · rename_i r off n
    split at hs
    · rename_i sz' cells refs' hl
      split at hs
      · rename_i hsz; subst hsz
        simp only [dRoot, needRoots, needRoot, hl, List.append_nil, Needs] at hn
        have hr := hi.roots r _ hn.1
        unfold Rep at h
        cases eb : β r with
        | none => rw [eb] at hr; exact hr.ne.elim
        | nil =>
          rw [eb] at h hr
          obtain ⟨_, rfl, rfl, rfl⟩ := h
          obtain ⟨rfl, hF⟩ := hr
          cases mv <;> simp at hs
          · obtain ⟨rfl, rfl, rfl, rfl⟩ := hs
            exact ⟨[], [], ⟨_, _, rfl, by simp, .inl rfl⟩, RepL_nil, by simp [menL], List.nodup_nil, rfl⟩
          · obtain ⟨rfl, rfl, rfl, rfl⟩ := hs
            exact ⟨[], [], ⟨_, _, rfl, by simp, .inl rfl⟩, RepL_nil, by simp [menL], List.nodup_nil, ⟨_, hn.1⟩, by simp⟩
        | blk b o' sz2 m2 =>
          rw [eb] at h hr
          obtain ⟨_, cap, rfl, _⟩ := h
          obtain ⟨_, pre, ys, rest, E, F', h1, h2, h3, hF, h5, h6⟩ := hr
          have hseg : Seg w b o' ys := ⟨pre, rest, _, _, h1, h3⟩
          cases mv <;> simp at hs
          · obtain ⟨rfl, rfl, rfl, rfl⟩ := hs
            obtain ⟨F2, h7⟩ := RepL_sub h5 off (n * sz')
            rcases hf rfl with hf | ⟨_, _, _, e⟩
            · obtain rfl := RepL.noF hf h7
              refine ⟨_, [], ⟨_, _, rfl, by rw [RepL_length h7, hlen], .inr ⟨_, rfl, hseg.cellAt (i := off) _⟩⟩, h7, fun mm hm => h6 mm (menL_dt _ _ _ mm hm), List.nodup_nil, rfl⟩
            · cases e
          · obtain ⟨rfl, rfl, rfl, rfl, rfl⟩ := hs
            refine ⟨ys, F', ⟨_, _, rfl, by rw [RepL_length h5, hlen], .inr ⟨_, rfl, ?_⟩⟩, h5, h6, ?_, ⟨_, hn.1⟩, fun c hc => by rw [hF]; simp [hc]⟩
            · intro j u hj
              rw [add_lit, Nat.add_zero]
              exact hseg.cell hj
            · have := hi.nodup r; rw [hF] at this; exact (List.nodup_cons.1 this).2
      · cases hs
    · cases hs
  · rename_i n off ds
    simp at hs
    obtain ⟨rfl, rfl, rfl, rfl⟩ := hs
    unfold Rep at h
    obtain ⟨_, hmn, aa, cap, rfl, _, h⟩ := h
    have hm0 : ∀ mm ∈ menL ((ds.drop off).take (n * sz)), ([] : List Nat).contains mm = true := fun mm hm => by
      have := menL_dt _ _ _ mm hm; rw [hmn] at this; cases this
    rcases h with rfl | ⟨b, o', ys, rfl, h1, h2, h3⟩
    · have e : (ds.drop off).take (0 * sz) = [] := by simp
      rw [e]
      exact ⟨[], [], ⟨_, _, rfl, by simp, .inl rfl⟩, RepL_nil, by simp [menL], List.nodup_nil, rfl⟩
    · have h7 : RepL w S ((ds.drop off).take (n * sz)) noB ((ys.drop off).take (n * sz)) [] := by
        have e : ds = ds.take off ++ ((ds.drop off).take (n * sz) ++ (ds.drop off).drop (n * sz)) := by rw [List.take_append_drop, List.take_append_drop]
        obtain ⟨F2, h7⟩ := RepL_sub h3 off (n * sz)
        have h8 := h3
        rw [e] at h8
        obtain ⟨ya, y2, Fa, Fb, e1, e2, k1, k2⟩ := RepL_append h8
        obtain ⟨yb, yc, Fc, Fd, rfl, rfl, k3, k4⟩ := RepL_append k2
        simp only [List.nil_eq, List.append_eq_nil_iff] at e2
        obtain ⟨rfl, rfl, rfl⟩ := e2
        have l1 := RepL_length k1
        have l3 := RepL_length k3
        have l4 := RepL_length k4
        have l7 := RepL_length h7
        subst e1
        simp at l1 l3 l4 l7
        have : (List.drop off (ya ++ (yb ++ yc))).take (n * sz) = yb := by
          by_cases hi : off ≤ ds.length
          · have : ya.length = off := by omega
            rw [← this, List.drop_left]
            by_cases hn : n * sz ≤ ds.length - off
            · have : yb.length = n * sz := by omega
              rw [← this, List.take_left]
            · have : yc = [] := by apply List.eq_nil_of_length_eq_zero; omega
              subst this; simp; rw [List.take_of_length_le]; omega
          · have hb : yb = [] := by apply List.eq_nil_of_length_eq_zero; omega
            have hcc : yc = [] := by apply List.eq_nil_of_length_eq_zero; omega
            subst hb hcc
            simp; right; omega
        rw [this]; exact k3
      rw [noB_res (β := β)] at h7
      refine ⟨_, [], ⟨_, _, rfl, by rw [RepL_length h7, hlen], .inr ⟨_, rfl, ?_⟩⟩, h7, hm0, List.nodup_nil, rfl⟩
      have hc := h2.cellAt (i := off) (n * sz)
      simpa using hc
  · simp at hs
    obtain ⟨rfl, rfl, rfl, rfl⟩ := hs
    rw [Rep_v] at h
    exact ⟨[], [], ⟨_, _, h.1, by simp, .inl rfl⟩, RepL_nil, by simp [menL], List.nodup_nil, rfl⟩
  · cases hs
end
end Go.Gx
namespace Go.Gx
def bytesI (s : ByteArray) : List Int := s.data.toList.map fun b => (b.toNat : Int)
def strI (l : List Int) : ByteArray := ⟨(l.map fun n => UInt8.ofNat n.toNat).toArray⟩
def u8L (l : List Int) : List D := l.map fun n => .v (.int .u8 n)
def bytesD : List D → Option (List Int)
  | [] => some []
  | .v (.int .u8 n) :: l => (bytesD l).map (n :: ·)
  | _ => none
theorem bytesD_eq : ∀ {ds : List D} {l : List Int}, bytesD ds = some l → ds = u8L l
  | [], l, h => by simp only [bytesD, Option.some.injEq] at h; subst h; rfl
  | d :: ds, l, h => by
    unfold bytesD at h
    split at h
    · rename_i e; cases e
    · rename_i n l' e
      cases e
      cases hb : bytesD ds with
      | none => rw [hb] at h; cases h
      | some q =>
        rw [hb] at h
        simp only [Option.map_some, Option.some.injEq] at h
        subst h
        rw [bytesD_eq hb]; rfl
    · cases h
theorem u8L_rep {w : World} {S : Nat → Prop} {β : Beta} : ∀ {l : List Int} {ys : List Value} {F : List Nat}, RepL w S (u8L l) β ys F → ys = l.map (Value.int .u8) ∧ F = []
  | [], ys, F, h => by unfold RepL u8L at h; simpa using h
  | n :: l, ys, F, h => by
    have h' : RepL w S (.v (.int .u8 n) :: u8L l) β ys F := h
    unfold RepL at h'
    obtain ⟨y, ys', F1, F2, rfl, rfl, _, h1, h2⟩ := h'
    rw [Rep_v] at h1
    obtain ⟨rfl, rfl⟩ := h1
    obtain ⟨rfl, rfl⟩ := u8L_rep h2
    exact ⟨rfl, rfl⟩
theorem foldl_push : ∀ (l : List Int) (r : ByteArray), l.foldl (fun r n => r.push (UInt8.ofNat n.toNat)) r = ⟨r.data ++ (l.map fun n => UInt8.ofNat n.toNat).toArray⟩
  | [], r => by simp
  | b :: l, r => by
    simp only [List.foldl_cons]
    rw [foldl_push l]
    simp [ByteArray.push]
theorem foldl_strI (l : List Int) : l.foldl (fun r n => r.push (UInt8.ofNat n.toNat)) ByteArray.empty = strI l := by
  rw [foldl_push]
  have : ByteArray.empty.data = #[] := rfl
  rw [this]; simp [strI]
section
variable {P : Program} {o : Oper} {N t : Nat} {st : St} {T : Tab}
theorem opx_bytesOf (hT : TabOk P T) {r : Nat} {s1 s2 E : TypeId} {i1 i2 j : TI} {x : Operand} {s : ByteArray} (ho : o.op = .convert s1 s2 x) (hd : o.dst = some t) (ht : t < N)
    (h1 : T.get s1 = some i1) (h2 : T.get s2 = some i2) (hs : i1.desc = .string) (he : i2.desc = .slice E) (hj : T.get E = some j) (hu : j.desc = .int .u8) (hx : evD st x = .v (.string s)) :
    OpX P o N (needOf st x) [(2 * t, some (.d (.rs r 0 s.size))), (2 * r + 1, some (.r (.arr 1 (u8L (bytesI s)) [])))] [r] := by
  intro Γ hN g a w K Q hsat hn hfr hK
  obtain ⟨S, β, Fs, hi⟩ := hsat
  have e1 := hi.eval hn
  rw [hx, Rep_v] at e1
  have u1 : P.underlying s1 = some .string := by rw [(hT.get h1).1, hs]
  have u2 : P.underlying s2 = some (.slice E) := by rw [(hT.get h2).1, he]
  have u3 : P.underlying E = some (.int .u8) := by rw [(hT.get hj).1, hu]
  have hrun := run_bytes_of_string w s1 s2 E s u1 u2 u3
  have hcap := grownCap_ge w s.size 0 E
  have hrow : bytesRow s (grownCap w s.size 0 E) = ((bytesI s).map (Value.int .u8) ++ List.replicate (grownCap w s.size 0 E - s.size) (Value.int .u8 0)).toArray := by
    apply Array.ext'
    simp [bytesRow, bytesI]
  rw [hrow] at hrun
  have hlen : (bytesI s).length = s.size := by unfold bytesI; rw [List.length_map]; rfl
  have hi2 := hi.world (ext_drew w)
  have hu8 : u8L (bytesI s) = ((bytesI s).map (Value.int .u8)).map D.v := by rw [List.map_map]; rfl
  unfold Oper.wp
  have hr2 : (execOp a.eval o).run P w = .ok (.value (.slice (some ⟨w.heap.size, 0, .none⟩) s.size (grownCap w s.size 0 E)))
      (w.drew.alloc (.cells ((bytesI s).map (Value.int .u8) ++ List.replicate (grownCap w s.size 0 E - s.size) (Value.int .u8 0)).toArray E (fzOf ((bytesI s).map (Value.int .u8) ++ List.replicate (grownCap w s.size 0 E - s.size) (Value.int .u8 0)).length 1))) := by
    simp only [execOp, ho, e1.1, Sem.run_bind, hrun, Result.andThen_ok, Sem.run_pure]
    rfl
  rw [hr2]
  show K (a.put o.dst _) _
  rw [hd]
  have hnb := hi2.newBlk 1 (t := t) (r := r) (sz := 1) (cells := u8L (bytesI s)) (refs := []) (ys := (bytesI s).map (Value.int .u8)) (rest := List.replicate (grownCap w s.size 0 E - s.size) (Value.int .u8 0)) (E := E)
    (d := .rs r 0 s.size) (y := .slice (some ⟨w.heap.size, 0, .none⟩) s.size (grownCap w s.size 0 E)) (by omega) (hfr r (by simp)).1 (hfr r (by simp)).2 rfl
    (by
      have := RepL_vals (w := w.drew) (S := S) (β := β.res []) ((bytesI s).map (Value.int .u8)) (by simp [Value.oneCell'])
      rw [hu8]; exact this)
    (by rw [hu8, menL_vals]; simp)
    (by
      unfold Rep
      refine ⟨rfl, ?_⟩
      simp only [setB, if_true]
      refine ⟨_, by rfl, hcap, ?_⟩
      simp [hlen]; omega)
  exact hK _ _ ⟨S, _, _, hnb⟩
theorem opx_strOf (hT : TabOk P T) {r n : Nat} {s1 s2 E : TypeId} {i1 i2 j : TI} {x : Operand} {cells : List D} {refs : List Nat} {l : List Int} (ho : o.op = .convert s1 s2 x) (hd : o.dst = some t) (ht : t < N)
    (h1 : T.get s1 = some i1) (h2 : T.get s2 = some i2) (hs : i1.desc = .slice E) (he : i2.desc = .string) (hj : T.get E = some j) (hu : j.desc = .int .u8) (hx : evD st x = .rs r 0 n)
    (hr : look st (2 * r + 1) = some (.r (.arr 1 cells refs))) (hc : bytesD cells = some l) (hn : l.length = n) :
    OpX P o N (needOf st x ++ needRoot st r) [(2 * t, some (.d (.v (.string (strI l)))))] [] :=
  opx_val hd ht fun Γ g a w S β Fs hi hnd => by
    rw [Needs.append] at hnd
    obtain ⟨n1, n2⟩ := hnd
    have e1 := hi.eval n1
    rw [hx] at e1
    simp only [needRoot, hr, Needs] at n2
    have hroot := hi.roots r _ n2.1
    have u1 : P.underlying s1 = some (.slice E) := by rw [(hT.get h1).1, hs]
    have u2 : P.underlying s2 = some .string := by rw [(hT.get h2).1, he]
    have u3 : P.underlying E = some (.int .u8) := by rw [(hT.get hj).1, hu]
    refine ⟨.string (strI l), ?_, by rw [Rep_v]; exact ⟨rfl, rfl⟩⟩
    unfold Rep at e1
    cases eb : β r with
    | none => rw [eb] at hroot; exact hroot.ne.elim
    | nil =>
      rw [eb] at e1 hroot
      obtain ⟨_, h0, _, hy⟩ := e1
      have : l = [] := List.eq_nil_of_length_eq_zero (by omega)
      subst this
      simp only [execOp, ho, hy, Sem.run_bind, run_convert_bytes_string w s1 s2 E .none 0 0 u1 u3 u2]
      simp [Conv.bytesToString, strI]
      rfl
    | blk b o' sz m =>
      rw [eb] at e1 hroot
      obtain ⟨_, cap, hy, _⟩ := e1
      obtain ⟨rfl, pre, ys, rest, E', F', k1, k2, k3, hF, k5, k6⟩ := hroot
      rw [bytesD_eq hc] at k5
      obtain ⟨rfl, _⟩ := u8L_rep k5
      have hseg : Seg w b o' (l.map (Value.int .u8)) := ⟨pre, rest, _, _, k1, k3⟩
      have hl := run_loadCells_list (P := P) w ⟨b, o' + 0, .none⟩ (l.map (Value.int .u8)) (fun j u hj => by rw [add_lit, Nat.add_zero]; exact hseg.cell hj)
      rw [List.length_map] at hl
      have hb := run_bytesToString (P := P) w ⟨b, o' + 0, .none⟩ l.length cap l hl
      rw [foldl_strI] at hb
      simp only [execOp, ho, hy, ← hn, Sem.run_bind, run_convert_bytes_string w s1 s2 E _ _ _ u1 u3 u2, hb, Result.andThen_ok, Sem.run_pure]
theorem opx_sliceStr (hT : TabOk P T) {x lo hi' : Operand} {s : TypeId} {i : TI} {b : ByteArray} {k1 k2 : IntKind} {e1 e2 : Int} (ho : o.op = .slice s x (some lo) (some hi') none) (hd : o.dst = some t) (ht : t < N)
    (hs : T.get s = some i) (he : i.desc = .string) (hx : evD st x = .v (.string b)) (h1 : evD st lo = .v (.int k1 e1)) (h2 : evD st hi' = .v (.int k2 e2)) (c1 : 0 ≤ e1) (c2 : e1 ≤ e2) (c3 : e2 ≤ (b.size : Int)) :
    OpX P o N (needOf st x ++ (needOf st lo ++ needOf st hi')) [(2 * t, some (.d (.v (.string (b.extract e1.toNat e2.toNat)))))] [] :=
  opx_val hd ht fun Γ g a w S β Fs hi hn => by
    simp only [Needs.append] at hn
    have q1 := hi.eval hn.1
    have q2 := hi.eval hn.2.1
    have q3 := hi.eval hn.2.2
    rw [hx, Rep_v] at q1
    rw [h1, Rep_v] at q2
    rw [h2, Rep_v] at q3
    have u := (hT.get hs).und w
    rw [he] at u
    refine ⟨.string (b.extract e1.toNat e2.toNat), ?_, by rw [Rep_v]; exact ⟨rfl, rfl⟩⟩
    have g2 : 0 ≤ e2 := by omega
    simp [execOp, ho, q1.1, q2.1, q3.1, Instr.sliceAt, Instr.slice, Instr.sliceBounds, Instr.sliceBound, asIntOf, u, c1, g2, c3]
    intro h
    omega
end
end Go.Gx
namespace Go.Gx
def lim : Nat := 274877906944
section
variable {Γ : Ctx} {g : X} {a : Act} {w w' : World} {S : Nat → Prop} {β : Beta} {Fs : Nat → List Nat}
theorem Inv.dropKeys (h : Inv Γ g a w S β Fs) (r : Option Nat) : ∃ Fs', Inv Γ (upd g (dropKeys r)) a w S β Fs' ∧ (∀ k b, b ∈ Fs' k → b ∈ Fs k) ∧ ∀ k, r = some k → Fs' k = [] := by
  cases r with
  | none => exact ⟨Fs, h, fun _ _ h => h, fun _ h => by cases h⟩
  | some k =>
    refine ⟨_, h.dropRoot, fun q b hb => ?_, fun q hq => ?_⟩
    · unfold setF at hb; split at hb
      · simp at hb
      · exact hb
    · cases hq; simp [setF]
theorem FreshName.dropKeys {r : Nat} {q : Option Nat} (h : FreshName g r) : FreshName (upd g (Gx.dropKeys q)) r := by
  cases q with
  | none => exact h
  | some k => exact h.drop
theorem upd_append (g : X) : ∀ (l l' : Wr), upd g (l ++ l') = upd (upd g l') l
  | [], _ => rfl
  | (k, e) :: l, l' => by
    funext q
    show (if q = k then e else upd g (l ++ l') q) = if q = k then e else upd (upd g l') l q
    rw [upd_append g l l']
theorem to_rep (hi : Inv Γ g a w S β Fs) {st : St} {sz n : Nat} {d : D} {y : Value} {cells : List D} {refs : List Nat} {r : Option Nat}
    (h : Rep w S d β y []) (hs : appTo st sz d = some (cells, refs, r, n)) (hlen : cells.length = n * sz) (hn : Needs g (needRoots st (dRoot d))) :
    (cells = [] ∧ n = 0 ∧ y = .slice .none 0 0) ∨
    ∃ k b o cap pre ys rest, ∃ E : TypeId × Nat, ∃ F, r = some k ∧ y = .slice (some ⟨b, o, .none⟩) n cap ∧ n ≤ cap ∧ o + cap * sz ≤ (pre ++ ys ++ rest).length ∧ w.heap[b]? = some (.cells (pre ++ ys ++ rest).toArray E.1 (fzOf (pre ++ ys ++ rest).length E.2)) ∧
      pre.length = o ∧ Fs k = b :: F ∧ RepL w S cells (β.res refs) ys F ∧ (∀ m ∈ menL cells, refs.contains m = true) ∧ ys.length = n * sz := by
  unfold appTo at hs
  split at hs
  · rename_i k n'
    split at hs
    · rename_i sz' cells' refs' hl
      split at hs
      · rename_i hsz; subst hsz
        simp at hs
        obtain ⟨rfl, rfl, rfl, rfl⟩ := hs
        simp only [dRoot, needRoots, needRoot, hl, List.append_nil, Needs] at hn
        have hr := hi.roots k _ hn.1
        unfold Rep at h
        cases eb : β k with
        | none => rw [eb] at hr; exact hr.ne.elim
        | nil =>
          rw [eb] at h hr
          obtain ⟨_, rfl, _, rfl⟩ := h
          obtain ⟨rfl, hF⟩ := hr
          exact .inl ⟨rfl, rfl, rfl⟩
        | blk b o' sz2 m2 =>
          rw [eb] at h hr
          obtain ⟨_, cap, rfl, h1, h2⟩ := h
          obtain ⟨rfl, pre, ys, rest, E, F', k1, k2, k3, hF, k5, k6⟩ := hr
          exact .inr ⟨k, b, o', cap, pre, ys, rest, E, F', rfl, rfl, h1, by rw [← k2]; simpa using h2, k1, k3, hF, k5, k6, by rw [RepL_length k5, hlen]⟩
      · cases hs
    · cases hs
  · simp at hs
    obtain ⟨rfl, rfl, rfl, rfl⟩ := hs
    rw [Rep_v] at h
    exact .inl ⟨rfl, rfl, h.1⟩
  · cases hs
end
def dropAll (r q : Option Nat) : Wr := dropKeys r ++ dropKeys q
section
variable {P : Program} {o : Oper} {N t : Nat} {st : St} {T : Tab}
theorem opx_append (hT : TabOk P T) {u : Nat} {s E : TypeId} {i j : TI} {x y : Operand} {mv : Bool} {cells news : List D} {refs refs2 : List Nat} {r q : Option Nat} {n m : Nat}
    (ho : o.op = .call ⟨.builtin .append, #[x, y], #[s, s]⟩) (hd : o.dst = some t) (ht : t < N)
    (hs : T.get s = some i) (he : i.desc = .slice E) (hj : T.get E = some j) (_ : 0 < j.size) (hz : j.zero.length = j.size) (hby : j.bytes ≤ 512)
    (hx : appTo st j.size (evD st x) = some (cells, refs, r, n)) (hy : appSrc st j.size mv (evD st y) = some (news, refs2, q, m))
    (hl1 : cells.length = n * j.size) (hl2 : news.length = m * j.size) (hf : q = none → noFrL news = true ∨ ∃ n off ds, evD st y = .sl n off ds)
    (hrq : ∀ k, r = some k → q ≠ some k) (hbig : n + m ≤ lim) (hr1 : refs.contains u = false) (hr2 : refs2.contains u = false) :
    OpX P o N (needOf st x ++ (needOf st y ++ (needRoots st (dRoot (evD st x)) ++ needRoots st (dRoot (evD st y)))))
      ([(2 * t, some (.d (.rs u 0 (n + m)))), (2 * u + 1, some (.r (.arr j.size (cells ++ news) (refs ++ refs2))))] ++ dropAll r q) [u] := by
  intro Γ hN g a w K Q hsat hneed hfr hK
  obtain ⟨S, β, Fs, hi⟩ := hsat
  simp only [Needs.append] at hneed
  obtain ⟨n1, n2, n3, n4⟩ := hneed
  obtain ⟨nv, Fn, hsrc, hnews, hmn, hnd, hown⟩ := src_rep hi (hi.eval n2) hy hl2 hf n4
  have hto := to_rep hi (hi.eval n1) hx hl1 n3
  obtain ⟨hu, _⟩ := hT.get hs
  rw [he] at hu
  obtain ⟨_, inf, z, e1, e2, e3, e4, e5⟩ := hT.get hj
  have hlimn : n + m ≤ 274877906944 := hbig
  have hbytes : (n + m) * inf.bytes ≤ 140737488355328 := by
    rw [e3]; calc (n + m) * j.bytes ≤ 274877906944 * 512 := Nat.mul_le_mul hlimn hby
      _ = 140737488355328 := by decide
  have hsrc' : Src w inf.size m nv (a.eval y) := by rw [e2]; exact hsrc
  have hnp := (hfr u (by simp)).1
  have hft := (hfr u (by simp)).2
  obtain ⟨F1, i1, s1, z1⟩ := hi.dropKeys q
  obtain ⟨F2, i2, s2, z2⟩ := i1.dropKeys r
  have hft2 : FreshName (upd (upd g (dropKeys q)) (dropKeys r)) u := hft.dropKeys.dropKeys
  have hFn : ∀ c ∈ Fn, ¬ S c ∧ c < w.heap.size ∧ (Γ.F0 c ∨ Γ.w0.heap.size ≤ c) ∧ ∀ k, c ∉ F2 k := by
    intro c hc
    cases q with
    | none => rw [srcOwn] at hown; rw [hown] at hc; cases hc
    | some k =>
      have h1 := hi.own k c (hown.2 c hc)
      refine ⟨h1.1, h1.2.1, h1.2.2, fun k' hk' => ?_⟩
      have h2 := s2 k' c hk'
      by_cases e : k' = k
      · subst e; rw [z1 _ rfl] at h2; cases h2
      · exact hi.disj k' k e c (s1 k' c h2) (hown.2 c hc)
  have fin : ∀ (w' : World) (b o' cap : Nat) (pre ys rest : List Value) (E' : TypeId × Nat) (F : List Nat), Inv Γ (upd (upd g (dropKeys q)) (dropKeys r)) a w' S β F2 →
      w'.heap[b]? = some (.cells (pre ++ ys ++ rest).toArray E'.1 (fzOf (pre ++ ys ++ rest).length E'.2)) → pre.length = o' → n + m ≤ cap → o' + cap * j.size ≤ (pre ++ ys ++ rest).length →
      RepL w' S (cells ++ news) (β.res (refs ++ refs2)) ys F → (b :: F).Nodup → (∀ c ∈ b :: F, ¬ S c ∧ c < w'.heap.size ∧ (Γ.F0 c ∨ Γ.w0.heap.size ≤ c) ∧ ∀ k, c ∉ F2 k) →
      (∀ m ∈ menL (cells ++ news), (refs ++ refs2).contains m = true) →
      K (a.put o.dst (.slice (some ⟨b, o', .none⟩) (n + m) cap)) w' := by
    intro w' b o' cap pre ys rest E' F hinv hb hpre hcap hfit hrep hnod hF hmen
    rw [hd]
    have hrefs : (refs ++ refs2).contains u = false := by
      simp only [List.contains_eq_mem, List.mem_append, decide_eq_false_iff_not] at hr1 hr2 ⊢
      rintro (h | h)
      · exact hr1 h
      · exact hr2 h
    have h2 := hinv.newRoot (x := .arr j.size (cells ++ news) (refs ++ refs2)) (rb := .blk b o' j.size (pre ++ ys ++ rest).length) hnp hft2
      ⟨rfl, pre, ys, rest, E', F, hb, rfl, hpre, rfl, by rw [res_setB hrefs]; exact hrep, hmen⟩ hnod hF
    have h3 := h2.put (t := t) (d := .rs u 0 (n + m)) (y := .slice (some ⟨b, o', .none⟩) (n + m) cap) (by omega) (by
      unfold Rep
      refine ⟨rfl, ?_⟩
      simp only [setB, if_true]
      exact ⟨cap, rfl, hcap, by simpa using hfit⟩)
    exact hK _ _ (by
      rw [upd_append, dropAll, upd_append, upd_cons]
      exact ⟨S, _, _, h3⟩)
  have hmen : (∀ m ∈ menL cells, refs.contains m = true) → ∀ m ∈ menL (cells ++ news), (refs ++ refs2).contains m = true := by
    intro h m hm
    rw [menL_append] at hm
    simp only [List.contains_iff_mem, List.mem_append] at *
    rcases hm with hm | hm
    · exact .inl (by simpa using h m hm)
    · exact .inr (by simpa using hmn m hm)
  have hrenews : RepL w S news (β.res (refs ++ refs2)) nv Fn := RepL.beta news nv Fn (fun mm hm => by
    have := hmn mm hm
    unfold Beta.res
    rw [if_pos this, if_pos (by simp at this ⊢; exact .inr this)]) hnews
  have hnew : ∀ c, c = w.heap.size → ¬ S c ∧ (Γ.F0 c ∨ Γ.w0.heap.size ≤ c) ∧ ∀ k, c ∉ F2 k := by
    rintro c rfl
    exact ⟨fun hs => Nat.lt_irrefl _ (hi.sOk _ hs).1, .inr hi.ext.size, fun k hk => Nat.lt_irrefl _ (i2.own k _ hk).2.1⟩
  have grow : ∀ (ov : List Value) (Fo : List Nat), RepL w S cells (β.res (refs ++ refs2)) ov Fo → (∀ m ∈ menL cells, refs.contains m = true) → Fo.Nodup → (∀ c ∈ Fo, ∀ c' ∈ Fn, c ≠ c') →
      (∀ c ∈ Fo, ¬ S c ∧ c < w.heap.size ∧ (Γ.F0 c ∨ Γ.w0.heap.size ≤ c) ∧ ∀ k, c ∉ F2 k) → ov.length = n * j.size → ∀ cap,
      K (a.put o.dst (.slice (some ⟨w.heap.size, 0, .none⟩) (n + m) (grownCap w (n + m) cap E))) (w.drew.alloc (.cells (ov ++ nv ++ (Builtin.zeroCells z.cells (grownCap w (n + m) cap E - (n + m))).toList).toArray E)) := by
    intro ov Fo hov hmc hndo hdis hFo hlo cap
    have hx2 := (ext_drew w).trans (ext_alloc w.drew (.cells (ov ++ nv ++ (Builtin.zeroCells z.cells (grownCap w (n + m) cap E - (n + m))).toList).toArray E))
    have hge := grownCap_ge w (n + m) cap E
    have hzs : z.cells.size = j.size := by have := congrArg List.length e5; simpa [hz] using this
    have mono : ∀ {ds : List D} {vs : List Value} {F : List Nat}, (∀ c ∈ F, c < w.heap.size) → RepL w S ds (β.res (refs ++ refs2)) vs F →
        RepL (w.drew.alloc (.cells (ov ++ nv ++ (Builtin.zeroCells z.cells (grownCap w (n + m) cap E - (n + m))).toList).toArray E)) S ds (β.res (refs ++ refs2)) vs F := fun hF h =>
      RepL.mono (fun c hc => hx2.kept c (hi.sOk c hc).1 id) (fun _ h => h) _ _ _ _ (fun c hc => hx2.kept c (hF c hc) id) h
    refine fin _ w.heap.size 0 _ [] (ov ++ nv) _ (E, 0) (Fo ++ Fn) (i2.world hx2) (by simpa [fzOf] using alloc_new w.drew _) rfl hge ?_ (RepL_append_mk (mono (fun c hc => (hFo c hc).2.1) hov) (mono (fun c hc => (hFn c hc).2.1) hrenews)) ?_ ?_ (hmen hmc)
    · simp only [Nat.zero_add, List.nil_append, List.length_append, Array.length_toList, size_zeroCells, hzs, hlo, RepL_length hnews, hl2, ← Nat.add_mul]
      exact Nat.mul_le_mul_right _ (by omega)
    · refine List.nodup_cons.2 ⟨fun hm => ?_, List.nodup_append.2 ⟨hndo, hnd, hdis⟩⟩
      rcases List.mem_append.1 hm with h | h
      · exact Nat.lt_irrefl _ (hFo _ h).2.1
      · exact Nat.lt_irrefl _ (hFn _ h).2.1
    · intro c hc
      rcases List.mem_cons.1 hc with rfl | hc
      · exact ⟨(hnew _ rfl).1, by simp, (hnew _ rfl).2⟩
      · rcases List.mem_append.1 hc with h | h
        · exact ⟨(hFo c h).1, by have := (hFo c h).2.1; simp; omega, (hFo c h).2.2⟩
        · exact ⟨(hFn c h).1, by have := (hFn c h).2.1; simp; omega, (hFn c h).2.2⟩
  unfold Oper.wp
  have run : ∀ res, (Builtin.append_ #[s, s] o.type #[a.eval x, a.eval y]).run P w = res → (execOp a.eval o).run P w = res.andThen fun v w' => .ok (.value v) w' := by
    intro res hres
    simp only [execOp, ho, resolve, invoke, builtin, Sem.run_bind, Sem.run_pure, Result.andThen_ok, List.map_toArray, List.map_cons, List.map_nil, hres]
  rcases hto with ⟨rfl, rfl, hyv⟩ | ⟨k, b, o', cap, pre, ys, rest, E', F, rfl, hyv, hcap, hfit, hb, hpre, hFk, hcells, hmc, hly⟩
  · by_cases hm0 : m = 0
    · subst hm0
      have hnv : nv = [] := List.eq_nil_of_length_eq_zero (by rw [RepL_length hnews, hl2]; simp)
      have hnw : news = [] := List.eq_nil_of_length_eq_zero (by rw [hl2]; simp)
      subst hnv hnw
      have hrr := run_append_none' (ty := o.type) hu e1 hsrc'
      rw [← hyv] at hrr
      rw [run _ hrr, hyv]
      show K (a.put o.dst (.slice .none 0 0)) w
      rw [hd]
      have hrefs : (refs ++ refs2).contains u = false := by
        simp only [List.contains_eq_mem, List.mem_append, decide_eq_false_iff_not] at hr1 hr2 ⊢
        rintro (h | h)
        · exact hr1 h
        · exact hr2 h
      have h2 := i2.newRoot (x := .arr j.size ([] ++ []) (refs ++ refs2)) (rb := .nil) (F := []) hnp hft2 ⟨rfl, rfl⟩ List.nodup_nil (by simp)
      have h3 := h2.put (t := t) (d := .rs u 0 (0 + 0)) (y := .slice .none 0 0) (by omega) (by
        unfold Rep
        simp [setB])
      exact hK _ _ (by
        rw [upd_append, dropAll, upd_append, upd_cons]
        exact ⟨S, _, _, h3⟩)
    · have hrr := run_append_grow' (ty := o.type) (b := .none) (n := 0) (cap := 0) hu e1 e4 (ov := []) ⟨_, _, rfl, by simp, .inl rfl⟩ hsrc' (by omega) (by omega) (growslice_fits (by omega) hbytes)
      rw [← hyv] at hrr
      rw [run _ hrr]
      exact grow [] [] RepL_nil (by simp [menL]) List.nodup_nil (by simp) (by simp) (by simp) 0
  · have hold : RepL w S cells (β.res (refs ++ refs2)) ys F := RepL.beta cells ys F (res_more (β := β) (more := refs2) hmc) hcells
    have hbF : b ∈ Fs k := by rw [hFk]; simp
    have hFo : ∀ c ∈ b :: F, ¬ S c ∧ c < w.heap.size ∧ (Γ.F0 c ∨ Γ.w0.heap.size ≤ c) ∧ ∀ k, c ∉ F2 k := by
      intro c hc
      have hcF : c ∈ Fs k := by rw [hFk]; exact hc
      have h1 := hi.own k c hcF
      refine ⟨h1.1, h1.2.1, h1.2.2, fun k' hk' => ?_⟩
      by_cases e : k' = k
      · subst e; rw [z2 _ rfl] at hk'; cases hk'
      · exact hi.disj k' k e c (s1 k' c (s2 k' c hk')) hcF
    have hdis : ∀ c ∈ b :: F, ∀ c' ∈ Fn, c ≠ c' := by
      rintro c hc c' hc' rfl
      cases q with
      | none => rw [srcOwn] at hown; rw [hown] at hc'; cases hc'
      | some k' =>
        have hne : k ≠ k' := fun e => hrq k rfl (by rw [e])
        exact hi.disj k k' hne c (by rw [hFk]; exact hc) (hown.2 c hc')
    have hndF := hi.nodup k
    rw [hFk] at hndF
    by_cases hroom : n + m ≤ cap
    · have hlv : nv.length = m * j.size := by rw [RepL_length hnews, hl2]
      have hfit2 : o' + n * inf.size + nv.length ≤ (pre ++ ys ++ rest).toArray.size := by
        rw [e2, hlv]
        have : (n + m) * j.size ≤ cap * j.size := Nat.mul_le_mul_right _ hroom
        rw [Nat.add_mul] at this
        simp at hfit ⊢; omega
      have hr := run_append_room' (ty := o.type) hu e1 hb hsrc' (RepL.oneCell hnews) hroom hfit2
      rw [← hyv] at hr
      rw [run _ hr]
      have econt : ((pre ++ ys ++ rest).toArray.toList.take (o' + n * inf.size) ++ nv ++ (pre ++ ys ++ rest).toArray.toList.drop (o' + n * inf.size + nv.length)) = pre ++ (ys ++ nv) ++ rest.drop nv.length := by
        have h1 : o' + n * inf.size = (pre ++ ys).length := by rw [e2]; simp; omega
        simp only [h1, List.take_left]
        rw [show (pre ++ ys).length + nv.length = (pre ++ ys).length + nv.length from rfl, List.drop_length_add_append]
        simp
      show K (a.put o.dst (.slice (some ⟨b, o', .none⟩) (n + m) cap)) _
      rw [econt]
      have hw : ∀ c, c ≠ b → (w.setRow b (pre ++ (ys ++ nv) ++ rest.drop nv.length).toArray).heap[c]? = w.heap[c]? := fun c hc => setRow_other w b c _ hc
      have hi3 := i2.freeWrite (w' := w.setRow b (pre ++ (ys ++ nv) ++ rest.drop nv.length).toArray) hw (by simp) rfl rfl rfl (hFo b (by simp)).1 (hFo b (by simp)).2.2.2 (hFo b (by simp)).2.2.1
      have mono : ∀ {ds : List D} {vs : List Value} {F : List Nat}, (∀ c ∈ F, c ≠ b) → RepL w S ds (β.res (refs ++ refs2)) vs F →
          RepL (w.setRow b (pre ++ (ys ++ nv) ++ rest.drop nv.length).toArray) S ds (β.res (refs ++ refs2)) vs F := fun hF h =>
        RepL.mono (fun c hc => hw c (by rintro rfl; exact (hFo c (by simp)).1 hc)) (fun _ h => h) _ _ _ _ (fun c hc => hw c (hF c hc)) h
      refine fin _ b o' cap pre (ys ++ nv) (rest.drop nv.length) E' (F ++ Fn) hi3 (setRow_fz hb (by have q := hfit2; rw [e2] at q; simp at q ⊢; omega)) hpre hroom ?_ (RepL_append_mk (mono (fun c hc e => by subst e; exact (List.nodup_cons.1 hndF).1 hc) hold) (mono (fun c hc e => hdis b (by simp) c hc e.symm) hrenews)) ?_ ?_ (hmen hmc)
      · rw [e2] at hfit2; simp at hfit hfit2 ⊢; omega
      · refine List.nodup_cons.2 ⟨fun hm => ?_, List.nodup_append.2 ⟨(List.nodup_cons.1 hndF).2, hnd, fun c hc c' hc' => hdis c (by simp [hc]) c' hc'⟩⟩
        rcases List.mem_append.1 hm with h | h
        · exact (List.nodup_cons.1 hndF).1 h
        · exact hdis b (by simp) b h rfl
      · intro c hc
        simp only [setRow_size]
        rcases List.mem_cons.1 hc with rfl | hc
        · exact hFo _ (by simp)
        · rcases List.mem_append.1 hc with h | h
          · exact hFo c (by simp [h])
          · exact hFn c h
    · have hsrcO : Src w inf.size n ys (.slice (some ⟨b, o', .none⟩) n cap) := by
        refine ⟨_, _, rfl, by rw [hly, e2], .inr ⟨_, rfl, ?_⟩⟩
        intro c u hc
        rw [add_lit]
        exact (show Seg w b o' ys from ⟨pre, rest, _, _, hb, hpre⟩).cell hc
      have hrr := run_append_grow' (ty := o.type) (b := some ⟨b, o', .none⟩) hu e1 e4 hsrcO hsrc' (by omega) (by omega) (growslice_fits (by omega) hbytes)
      rw [← hyv] at hrr
      rw [run _ hrr]
      exact grow ys F hold hmc (List.nodup_cons.1 hndF).2 (fun c hc c' hc' => hdis c (by simp [hc]) c' hc') (fun c hc => hFo c (by simp [hc])) hly cap
end
end Go.Gx
namespace Go.Gx
structure Step where
  need : List (Nat × Ent)
  wr : Wr
  fresh : List Nat
def Names (np : Nat) (g : X) (l : List Nat) : Prop := ∀ r ∈ l, np ≤ r ∧ FreshName g r
def OpV (P : Program) (ops : Array Oper) (N i : Nat) (s : Step) : Prop :=
  ∀ Γ, Γ.N = N → ∀ g a w K Q, Sat Γ g a w → Needs g s.need → Names Γ.np g s.fresh → (∀ a' w', Sat Γ (upd g s.wr) a' w' → K a' w') → wpOp P ops Q i K a w
section
variable {P : Program} {ops : Array Oper} {N i : Nat} {o : Oper}
theorem opv_plain {need : List (Nat × Ent)} {wr : Wr} {fresh : List Nat} (ho : ops[i]? = some o) (hg : o.guard = none) (h : OpX P o N need wr fresh) : OpV P ops N i ⟨need, wr, fresh⟩ := by
  intro Γ hN g a w K Q hs hn hf hK
  unfold wpOp
  simp only [ho, Region.wanted, hg, if_true]
  exact .inl (h Γ hN g a w K Q hs hn hf hK)
theorem yielded_of {Γ : Ctx} {g : X} {a : Act} {w : World} {j u : Nat} {b : Bool} (hs : Sat Γ g a w) (hj : (ops[j]?).bind (·.dst) = some u) (hn : g (2 * u) = some (.d (.v (.bool b)))) : yielded ops a.tmps j = some b := by
  obtain ⟨S, β, Fs, hi⟩ := hs
  have h := hi.slots u _ hn
  rw [Rep_v] at h
  have h1 := h.1
  simp only [Array.getD_eq_getD_getElem?] at h1
  unfold yielded
  rw [hj]
  simp only [Option.bind_some]
  cases e : a.tmps[u]? with
  | none => rw [e] at h1; simp [undef] at h1
  | some y => rw [e] at h1; simp at h1; rw [h1]
theorem opv_on {need : List (Nat × Ent)} {wr : Wr} {fresh : List Nat} {j u : Nat} {b : Bool} (ho : ops[i]? = some o) (hg : o.guard = some (j, b)) (hj : (ops[j]?).bind (·.dst) = some u)
    (h : OpX P o N need wr fresh) : OpV P ops N i ⟨(2 * u, .d (.v (.bool b))) :: need, wr, fresh⟩ := by
  intro Γ hN g a w K Q hs hn hf hK
  unfold wpOp
  simp only [ho, Region.wanted, hg, yielded_of hs hj hn.1, beq_self_eq_true, if_true]
  exact .inl (h Γ hN g a w K Q hs hn.2 hf hK)
theorem opv_off {j u t : Nat} {b : Bool} (ho : ops[i]? = some o) (hg : o.guard = some (j, b)) (hj : (ops[j]?).bind (·.dst) = some u) (hd : o.dst = some t) (ht : t < N) :
    OpV P ops N i ⟨[(2 * u, .d (.v (.bool (!b))))], [(2 * t, some (.d .any))], []⟩ := by
  intro Γ hN g a w K Q hs hn hf hK
  unfold wpOp
  have hy := yielded_of hs hj hn.1
  have : (some (!b) == some b) = false := by cases b <;> rfl
  simp only [ho, Region.wanted, hg, hy, this, Bool.false_eq_true, if_false]
  rw [hd]
  obtain ⟨S, β, Fs, hi⟩ := hs
  exact hK _ _ ⟨S, β, Fs, hi.put_any (by omega)⟩
def stepsOK (P : Program) (ops : Array Oper) (N : Nat) : Nat → List Step → Prop
  | _, [] => True
  | i, s :: l => OpV P ops N i s ∧ stepsOK P ops N (i + 1) l
theorem stepsOK.get : ∀ {l : List Step} {i : Nat}, stepsOK P ops N i l → ∀ {k : Nat} {s : Step}, l[k]? = some s → OpV P ops N (i + k) s
  | [], _, _, k, s, hk => by simp at hk
  | x :: l, i, h, 0, s, hk => by simp at hk; subst hk; exact h.1
  | x :: l, i, h, k + 1, s, hk => by
    have := stepsOK.get h.2 (k := k) (s := s) (by simpa using hk)
    rwa [show i + 1 + k = i + (k + 1) by omega] at this
def runSteps (g : X) : List Step → X
  | [] => g
  | s :: l => runSteps (upd g s.wr) l
def chain (np : Nat) (g : X) : List Step → Prop
  | [] => True
  | s :: l => Needs g s.need ∧ Names np g s.fresh ∧ chain np (upd g s.wr) l
theorem seq_run {Γ : Ctx} (hN : Γ.N = N) {Q : Exit → Act → World → Prop} : ∀ (l : List Step) (i : Nat) (g : X) (a : Act) (w : World), stepsOK P ops N i l → chain Γ.np g l → Sat Γ g a w →
    (∀ a' w', Sat Γ (runSteps g l) a' w' → Q .normal a' w') → wpOps P ops Q (List.range' i l.length) a w
  | [], i, g, a, w, _, _, hs, hQ => by simp only [List.length_nil, List.range'_zero, wpOps]; exact hQ a w hs
  | s :: l, i, g, a, w, hv, hc, hs, hQ => by
    rw [List.length_cons, List.range'_succ, wpOps_cons]
    exact hv.1 Γ hN g a w _ _ hs hc.1 hc.2.1 fun a' w' hs' => seq_run hN l (i + 1) _ a' w' hv.2 hc.2.2 hs' hQ
def execS (s : Step) (g : X) (K : X → Prop) : Prop := Needs g s.need ∧ K (upd g s.wr)
def wpAnyG (ops : Array Oper) (st : Nat → Option Step) (K : X → Prop) : Nat → Array Bool → X → Prop
  | 0, listed, g => Region.ready .any ops listed = [] ∧ K g
  | fuel + 1, listed, g => (Region.ready .any ops listed = [] → K g) ∧ ∀ i ∈ Region.ready .any ops listed, ∃ s, st i = some s ∧ execS s g (wpAnyG ops st K fuel (listed.setIfInBounds i true))
def waitsB (ops : Array Oper) (j k : Nat) : Bool := match ops[j]? with
  | some o => o.after.any fun e => Region.binds .any e && e.on == k
  | none => false
def keysN (s : Step) : List Nat := s.need.map (·.1)
def keysW (s : Step) : List Nat := s.wr.map (·.1)
def disjB (a b : List Nat) : Bool := a.all fun x => !b.contains x
def apartS (s t : Step) : Bool := disjB (keysW s) (keysN t) && disjB (keysW s) (keysW t) && disjB (keysN s) (keysW t)
def nonameB (s : Step) (l : List Nat) : Bool := s.wr.all fun p => match p.2 with
  | some e => l.all fun r => p.1 != 2 * r + 1 && !e.names r
  | none => true
theorem upd_other {g : X} : ∀ {l : Wr} {k : Nat}, k ∉ l.map (·.1) → upd g l k = g k
  | [], _, _ => rfl
  | (k', e) :: l, k, h => by
    simp only [List.map_cons, List.mem_cons, not_or] at h
    show (if k = k' then e else upd g l k) = g k
    rw [if_neg h.1, upd_other h.2]
theorem disjB_spec {a b : List Nat} (h : disjB a b = true) : ∀ x ∈ a, x ∉ b := fun x hx hb => by
  have := List.all_eq_true.1 h x hx
  simp at this
  exact this hb
theorem disjB_spec' {a b : List Nat} (h : disjB a b = true) : ∀ x ∈ b, x ∉ a := fun x hx hb => disjB_spec h x hb hx
theorem Needs.of_upd {g : X} {wr : Wr} : ∀ {l : List (Nat × Ent)}, (∀ x ∈ l.map (·.1), x ∉ wr.map (·.1)) → (Needs (upd g wr) l ↔ Needs g l)
  | [], _ => Iff.rfl
  | p :: l, h => by
    simp only [Needs]
    rw [upd_other (h p.1 (by simp)), Needs.of_upd fun x hx => h x (by simp at hx ⊢; exact .inr hx)]
theorem upd_mem {g g' : X} : ∀ {l : Wr} {k : Nat}, k ∈ l.map (·.1) → upd g l k = upd g' l k
  | (k', e) :: l, k, h => by
    show (if k = k' then e else upd g l k) = (if k = k' then e else upd g' l k)
    by_cases e' : k = k'
    · rw [if_pos e', if_pos e']
    · rw [if_neg e', if_neg e']
      simp only [List.map_cons, List.mem_cons] at h
      exact upd_mem (h.resolve_left e')
theorem upd_comm {g : X} {l l' : Wr} (h : ∀ x ∈ l.map (·.1), x ∉ l'.map (·.1)) : upd (upd g l) l' = upd (upd g l') l := by
  funext k
  by_cases h1 : k ∈ l.map (·.1)
  · rw [upd_other (h k h1), upd_mem (g' := upd g l') h1]
  · rw [upd_other (g := upd g l') h1]
    by_cases h2 : k ∈ l'.map (·.1)
    · rw [upd_mem (g' := g) h2]
    · rw [upd_other h2, upd_other h1, upd_other h2]
theorem exec_put {s t : Step} {g : X} {K : X → Prop} (hap : apartS s t = true) (hs : Needs g s.need) (h : execS t (upd g s.wr) K) :
    execS t g (fun g' => Needs g' s.need ∧ K (upd g' s.wr)) := by
  simp only [apartS, Bool.and_eq_true] at hap
  obtain ⟨⟨h1, h2⟩, h3⟩ := hap
  obtain ⟨hn, hk⟩ := h
  refine ⟨(Needs.of_upd (disjB_spec' h1)).1 hn, (Needs.of_upd (disjB_spec h3)).2 hs, ?_⟩
  rw [← upd_comm (disjB_spec h2)]
  exact hk
theorem exec_mono {s : Step} {g : X} {K K' : X → Prop} (h : ∀ g, K g → K' g) (hh : execS s g K) : execS s g K' := ⟨hh.1, h _ hh.2⟩
theorem anyG_first {st : Nat → Option Step} {K : X → Prop} {i : Nat} {si : Step} (hi : st i = some si) : ∀ (fuel : Nat) (listed : Array Bool) (g : X),
    (∀ j sj, st j = some sj → j ≠ i → listed.getD j true = false → waitsB ops j i = false → apartS si sj = true) →
    i ∈ Region.ready .any ops listed → Needs g si.need → wpAnyG ops st K fuel (listed.setIfInBounds i true) (upd g si.wr) → wpAnyG ops st K (fuel + 1) listed g := by
  intro fuel
  induction fuel with
  | zero =>
    intro listed g hfree hr hn H
    refine ⟨fun h => (by rw [h] at hr; cases hr), fun j hj => ?_⟩
    by_cases hji : j = i
    · subst hji; exact ⟨si, hi, hn, H⟩
    · have := ready_mono hj hji
      rw [H.1] at this
      cases this
  | succ fuel ih =>
    intro listed g hfree hr hn H
    refine ⟨fun h => (by rw [h] at hr; cases hr), fun j hj => ?_⟩
    by_cases hji : j = i
    · subst hji; exact ⟨si, hi, hn, H⟩
    · obtain ⟨sj, hsj, h1⟩ := H.2 j (ready_mono hj hji)
      obtain ⟨hjun, oj, hoj, hall⟩ := mem_ready.1 hj
      have hnot : waitsB ops j i = false := by
        unfold waitsB
        rw [hoj]
        simp only []
        rw [Bool.eq_false_iff]
        intro hany
        rw [Array.any_eq_true] at hany
        obtain ⟨q, hq, hb⟩ := hany
        simp only [Bool.and_eq_true, beq_iff_eq] at hb
        have h1 := hall oj.after[q] (Array.getElem_mem hq) hb.1
        have h0 := (mem_ready.1 hr).1
        rw [hb.2] at h1
        rcases Nat.lt_or_ge i listed.size with h' | h'
        · simp [h'] at h0 h1; rw [h0] at h1; cases h1
        · simp [Array.getElem?_eq_none h'] at h1
      have h2 := exec_put (hfree j sj hsj hji hjun hnot) hn h1
      refine ⟨sj, hsj, exec_mono (fun g' h3 => ih (listed.setIfInBounds j true) g' ?_ (ready_mono hr (Ne.symm hji)) h3.1 ?_) h2⟩
      · intro k sk hk hki hun hno
        refine hfree k sk hk hki ?_ hno
        by_cases hjk : j = k
        · subst hjk; exact hjun
        · rw [getD_set_ne true hjk] at hun; exact hun
      · rw [Array.setIfInBounds_comm _ _ hji]
        exact h3.2
def lexG (ops : Array Oper) : List Step → Nat → Array Bool → Bool
  | [], _, listed => (Region.ready .any ops listed).isEmpty
  | s :: l, k, listed => (Region.ready .any ops listed).contains k && ((List.range l.length).all fun q => waitsB ops (k + 1 + q) k || (match l[q]? with | some t => apartS s t | none => true)) &&
      lexG ops l (k + 1) (listed.setIfInBounds k true)
def chainN (g : X) : List Step → Prop
  | [] => True
  | s :: l => Needs g s.need ∧ chainN (upd g s.wr) l
theorem anyG_lex {st : Nat → Option Step} {K : X → Prop} (hlen : ∀ j, (∃ o, ops[j]? = some o) → ∃ s, st j = some s) : ∀ (l : List Step) (k : Nat) (listed : Array Bool) (g : X), (∀ q, l[q]? = st (k + q)) → (∀ q, q < k → listed.getD q true = true) →
    lexG ops l k listed = true → chainN g l → K (runSteps g l) → wpAnyG ops st K l.length listed g
  | [], _, _, _, _, _, hB, _, h => ⟨by simpa [lexG] using hB, h⟩
  | s :: l, k, listed, g, hl, hb, hB, hc, h => by
    have h0 : st k = some s := by simpa using (hl 0).symm
    simp only [lexG, Bool.and_eq_true] at hB
    obtain ⟨⟨hr, hf⟩, hB'⟩ := hB
    have hr' : k ∈ Region.ready .any ops listed := by simpa using hr
    refine anyG_first h0 l.length listed g ?_ hr' hc.1 ?_
    · intro j sj hj hjk hun hnw
      have hkj : k < j := by
        rcases Nat.lt_or_ge j k with h' | h'
        · rw [hb j h'] at hun; cases hun
        · omega
      have hq := hl (j - k)
      rw [show k + (j - k) = j by omega, hj, show j - k = (j - (k + 1)) + 1 by omega, List.getElem?_cons_succ] at hq
      have hlt := (List.getElem?_eq_some_iff.1 hq).1
      have := List.all_eq_true.1 hf (j - (k + 1)) (List.mem_range.2 hlt)
      rw [show k + 1 + (j - (k + 1)) = j by omega, hnw, Bool.false_or, hq] at this
      exact this
    · refine anyG_lex hlen l (k + 1) _ _ (fun q => ?_) (fun q hq => ?_) hB' hc.2 h
      · have := hl (q + 1)
        rw [List.getElem?_cons_succ] at this
        rw [this]; congr 1; omega
      · by_cases hqk : q = k
        · subst hqk
          obtain ⟨hun, _⟩ := mem_ready.1 hr'
          rcases Nat.lt_or_ge q listed.size with h' | h'
          · simp [h']
          · simp [Array.getElem?_eq_none h'] at hun
        · rw [getD_set_ne true (Ne.symm hqk)]; exact hb q (by omega)
def waitsN (ops : Array Oper) : Nat → Nat → Nat → Bool
  | 0, _, _ => false
  | n + 1, i, j => match ops[i]? with
    | some o => o.after.any fun e => Region.binds .any e && (e.on == j || waitsN ops n e.on j)
    | none => false
def Shut (ops : Array Oper) (listed : Array Bool) : Prop := ∀ k o, ops[k]? = some o → listed.getD k false = true → ∀ e ∈ o.after, Region.binds .any e = true → listed.getD e.on false = true
theorem Shut.waits {listed : Array Bool} (h : Shut ops listed) : ∀ (n i j : Nat), (∀ o, ops[i]? = some o → ∀ e ∈ o.after, Region.binds .any e = true → listed.getD e.on false = true) → waitsN ops n i j = true → listed.getD j false = true
  | 0, _, _, _, hw => by cases hw
  | n + 1, i, j, hi, hw => by
    unfold waitsN at hw
    split at hw
    · rename_i o ho
      rw [Array.any_eq_true] at hw
      obtain ⟨q, hq, hb⟩ := hw
      simp only [Bool.and_eq_true, Bool.or_eq_true, beq_iff_eq] at hb
      have h1 := hi o ho _ (Array.getElem_mem hq) hb.1
      rcases hb.2 with h2 | h2
      · rw [h2] at h1; exact h1
      · exact h.waits n _ j (fun o' ho' => h _ o' ho' h1) h2
    · cases hw
def namesG (ops : Array Oper) (l : List Step) : Bool :=
  (List.range l.length).all fun i => (List.range l.length).all fun j => i == j || waitsB ops i j || (match l[i]?, l[j]? with | some s, some t => nonameB s t.fresh | _, _ => true) || waitsN ops 12 i j
theorem FreshName.upd {g : X} {s : Step} {l : List Nat} {r : Nat} (h : FreshName g r) (hn : nonameB s l = true) (hr : r ∈ l) : FreshName (Gx.upd g s.wr) r := by
  intro k e he
  by_cases hk : k ∈ s.wr.map (·.1)
  · have : ∃ p ∈ s.wr, p.1 = k ∧ p.2 = some e := by
      generalize s.wr = wr at *
      clear hn
      induction wr with
      | nil => simp at hk
      | cons p wr ih =>
        obtain ⟨k', e'⟩ := p
        have he' : (if k = k' then e' else Gx.upd g wr k) = some e := he
        by_cases hkk : k = k'
        · rw [if_pos hkk] at he'; exact ⟨(k', e'), by simp, hkk.symm, he'⟩
        · rw [if_neg hkk] at he'
          simp only [List.map_cons, List.mem_cons] at hk
          obtain ⟨p, hp, h1⟩ := ih he' (hk.resolve_left hkk)
          exact ⟨p, by simp [hp], h1⟩
    obtain ⟨p, hp, rfl, h2⟩ := this
    have := List.all_eq_true.1 hn p hp
    rw [h2] at this
    have := List.all_eq_true.1 this r hr
    simpa using this
  · rw [upd_other hk] at he
    exact h k e he
theorem Shut.set {listed : Array Bool} (h : Shut ops listed) {i : Nat} (hi : i ∈ Region.ready .any ops listed) : Shut ops (listed.setIfInBounds i true) := by
  obtain ⟨hun, oi, hoi, hall⟩ := mem_ready.1 hi
  have mono : ∀ q, listed.getD q false = true → (listed.setIfInBounds i true).getD q false = true := by
    intro q hq
    by_cases hqi : i = q
    · subst hqi
      rcases Nat.lt_or_ge i listed.size with h' | h'
      · simp [h']
      · simp [Array.getElem?_eq_none h'] at hq
    · rw [getD_set_ne false hqi]; exact hq
  intro k o ho hk e he hb
  by_cases hki : i = k
  · subst hki
    rw [hoi] at ho; cases ho
    exact mono _ (hall e he hb)
  · rw [getD_set_ne false hki] at hk
    exact mono _ (h k o ho hk e he hb)
theorem any_of_anyG {Γ : Ctx} (hN : Γ.N = N) {l : List Step} (hv : stepsOK P ops N 0 l) (hlen : l.length = ops.size) (hnm : namesG ops l = true) {Q : Exit → Act → World → Prop} {K : X → Prop} (hQ : ∀ g a w, K g → Sat Γ g a w → Q .normal a w) :
    ∀ (fuel : Nat) (listed : Array Bool) (g : X) (a : Act) (w : World), Shut ops listed → Sat Γ g a w → (∀ j s, l[j]? = some s → listed.getD j true = false → Names Γ.np g s.fresh) →
      wpAnyG ops (fun i => l[i]?) K fuel listed g → wpAny P .any ops Q fuel listed a w
  | 0, _, _, _, _, _, hs, _, h => ⟨h.1, hQ _ _ _ h.2 hs⟩
  | fuel + 1, listed, g, a, w, hsh, hs, hf, h => by
    refine ⟨fun h0 => hQ _ _ _ (h.1 h0) hs, fun i hi => ?_⟩
    obtain ⟨s, hsi, hn, hk⟩ := h.2 i hi
    have hun := (mem_ready.1 hi).1
    have hV := hv.get hsi
    rw [Nat.zero_add] at hV
    refine hV Γ hN g a w _ _ hs hn (hf i s hsi hun) fun a' w' hs' => any_of_anyG hN hv hlen hnm hQ fuel _ _ a' w' (hsh.set hi) hs' ?_ hk
    intro j t ht hjun r hr
    have hji : i ≠ j := by
      rintro rfl
      rcases Nat.lt_or_ge i listed.size with h' | h'
      · simp [h'] at hjun
      · simp [Array.getElem?_eq_none h'] at hun
    rw [getD_set_ne true hji] at hjun
    have h1 := hf j t ht hjun r hr
    refine ⟨h1.1, h1.2.upd (l := t.fresh) ?_ hr⟩
    have hil := (List.getElem?_eq_some_iff.1 hsi).1
    have hjl := (List.getElem?_eq_some_iff.1 ht).1
    have := List.all_eq_true.1 (List.all_eq_true.1 hnm i (List.mem_range.2 hil)) j (List.mem_range.2 hjl)
    have hsi' : l[i]? = some s := hsi
    rw [hsi', ht] at this
    simp only [Bool.or_eq_true, beq_iff_eq] at this
    rcases this with ((h2 | h2) | h2) | h2
    · exact absurd h2 hji
    · exfalso
      obtain ⟨_, oi, hoi, hall⟩ := mem_ready.1 hi
      unfold waitsB at h2
      rw [hoi] at h2
      simp only [] at h2
      rw [Array.any_eq_true] at h2
      obtain ⟨q, hq, hb⟩ := h2
      simp only [Bool.and_eq_true, beq_iff_eq] at hb
      have h3 := hall oi.after[q] (Array.getElem_mem hq) hb.1
      rw [hb.2] at h3
      rcases Nat.lt_or_ge j listed.size with h' | h'
      · simp [h'] at hjun h3; rw [hjun] at h3; cases h3
      · simp [Array.getElem?_eq_none h'] at h3
    · exact h2
    · exfalso
      have h3 := hsh.waits 12 i j (fun o ho e he hb => by
        obtain ⟨_, oi, hoi, hall⟩ := mem_ready.1 hi
        rw [hoi] at ho; cases ho
        exact hall e he hb) h2
      rcases Nat.lt_or_ge j listed.size with h' | h'
      · simp [h'] at hjun h3; rw [hjun] at h3; cases h3
      · simp [Array.getElem?_eq_none h'] at h3
theorem draw_run {Γ : Ctx} (hN : Γ.N = N) (hm : P.follows .mixedOrders = true) {l : List Step} {id : Nat} {Q : Exit → Act → World → Prop} {g : X} {a : Act} {w : World} (hv : stepsOK P ops N 0 l) (hlen : l.length = ops.size)
    (hlex : lexG ops l 0 (Array.replicate ops.size false) = true) (hnm : namesG ops l = true) (hc : chainN g l) (hf : ∀ s ∈ l, Names Γ.np g s.fresh) (hs : Sat Γ g a w)
    (hQ : ∀ a' w', Sat Γ (runSteps g l) a' w' → Q .normal a' w') : (Code.region id ops true).wp P Q a w := by
  have hs' : Sat Γ g a { w with drawn := w.drawn + 1 } := by
    obtain ⟨S, β, Fs, hi⟩ := hs
    exact ⟨S, β, Fs, hi.world (ext_drew w)⟩
  refine wp_region_any hm ?_
  have h := anyG_lex (ops := ops) (st := fun i => l[i]?) (K := fun g' => g' = runSteps g l) (fun j ⟨o, ho⟩ => by
    have := (Array.getElem?_eq_some_iff.1 ho).1
    exact ⟨l[j]'(by omega), by simp⟩) l 0 (Array.replicate ops.size false) g (by simp) (by omega) hlex hc rfl
  rw [hlen] at h
  exact any_of_anyG hN hv hlen hnm (fun g' a' w' e hs' => by subst e; exact hQ a' w' hs') _ _ g a _ (fun k o ho hk => by
    have hlt := (Array.getElem?_eq_some_iff.1 ho).1
    simp [hlt] at hk) hs' (fun j s hj _ => hf s (List.mem_of_getElem? hj)) h
end
end Go.Gx
namespace Go.Gx
abbrev Post := Exit → St → Prop
def PostA (Γ : Ctx) (Q : Post) : Exit → Act → World → Prop := fun e a w => ∃ st, Q e st ∧ Sat Γ (look st) a w
def Tr (P : Program) (N np : Nat) (c : Code) (st : St) (Q : Post) : Prop :=
  ∀ Γ, Γ.N = N → Γ.np = np → ∀ a w, Sat Γ (look st) a w → c.wp P (PostA Γ Q) a w
def TrL (P : Program) (N np : Nat) (n : Nat) (c : Code) (st : St) (Q : Post) : Prop :=
  ∀ Γ, Γ.N = N → Γ.np = np → ∀ a w, Sat Γ (look st) a w → Code.rounds P c (PostA Γ Q) n a w
def Imp (np : Nat) (st st' : St) : Prop := ∀ Γ, Γ.np = np → ∀ a w, Sat Γ (look st) a w → Sat Γ (look st') a w
section
variable {P : Program} {N np : Nat} {st : St} {Q : Post}
theorem Imp.refl (st : St) : Imp np st st := fun _ _ _ _ h => h
theorem Imp.trans {st st' st'' : St} (h : Imp np st st') (h' : Imp np st' st'') : Imp np st st'' := fun Γ hn a w hs => h' Γ hn a w (h Γ hn a w hs)
theorem Tr.imp {c : Code} {st' : St} (h : Imp np st st') (h' : Tr P N np c st' Q) : Tr P N np c st Q :=
  fun Γ hN hn a w hs => h' Γ hN hn a w (h Γ hn a w hs)
theorem Tr.mono {c : Code} {Q' : Post} (h : Tr P N np c st Q) (hq : ∀ e s, Q e s → Q' e s) : Tr P N np c st Q' :=
  fun Γ hN hn a w hs => wp_mono (h Γ hN hn a w hs) fun e _ _ ⟨s, hs, h⟩ => ⟨s, hq e s hs, h⟩
theorem tr_skip (h : Q .normal st) : Tr P N np .skip st Q := fun _ _ _ _ _ hs => wp_skip ⟨st, h, hs⟩
theorem tr_exit {id : Nat} (h : Q (.exit id) st) : Tr P N np (.exit id) st Q := fun _ _ _ _ _ hs => wp_exit ⟨st, h, hs⟩
theorem tr_ret (h : Q .ret st) : Tr P N np .ret st Q := fun _ _ _ _ _ hs => wp_ret ⟨st, h, hs⟩
def thenQ (P : Program) (N np : Nat) (y : Code) (Q : Post) : Post
  | .normal, s => Tr P N np y s Q
  | e, s => Q e s
theorem tr_seq {x y : Code} (h : Tr P N np x st (thenQ P N np y Q)) : Tr P N np (.seq x y) st Q :=
  fun Γ hN hn a w hs => wp_seq (wp_mono (h Γ hN hn a w hs) fun e a' w' ⟨s, h1, h2⟩ => by
    cases e with
    | normal => exact h1 Γ hN hn a' w' h2
    | exit id => exact ⟨s, h1, h2⟩
    | goto l => exact ⟨s, h1, h2⟩
    | ret => exact ⟨s, h1, h2⟩
    | panic c => exact ⟨s, h1, h2⟩
    | outgrown => exact ⟨s, h1, h2⟩)
theorem tr_cond {t : Nat} {x y : Code} {b : Bool} (hc : look st (2 * t) = some (.d (.v (.bool b)))) (h : Tr P N np (match b with | true => x | false => y) st Q) : Tr P N np (.cond (.tmp t) x y) st Q := by
  intro Γ hN hn a w hs
  have he : a.eval (.tmp t) = .bool b := by
    obtain ⟨S, β, Fs, hi⟩ := hs
    have := hi.slots t _ hc
    rw [Rep_v] at this
    exact this.1
  cases b
  · exact wp_cond_false he (h Γ hN hn a w hs)
  · exact wp_cond_true he (h Γ hN hn a w hs)
def blockQ (id : Nat) (Q : Post) : Post
  | .exit id', s => if id' = id then Q .normal s else Q (.exit id') s
  | e, s => Q e s
theorem tr_block {id : Nat} {c : Code} (h : Tr P N np c st (blockQ id Q)) : Tr P N np (.block id c) st Q :=
  fun Γ hN hn a w hs => wp_block (wp_mono (h Γ hN hn a w hs) fun e a' w' ⟨s, h1, h2⟩ => by
    cases e with
    | exit id' =>
      by_cases he : id' = id
      · simp only [Exit.inBlock, if_pos he]
        simp only [blockQ, if_pos he] at h1
        exact ⟨s, h1, h2⟩
      · simp only [Exit.inBlock, if_neg he]
        simp only [blockQ, if_neg he] at h1
        exact ⟨s, h1, h2⟩
    | normal => exact ⟨s, h1, h2⟩
    | goto l => exact ⟨s, h1, h2⟩
    | ret => exact ⟨s, h1, h2⟩
    | panic c => exact ⟨s, h1, h2⟩
    | outgrown => exact ⟨s, h1, h2⟩)
def roundQ (P : Program) (N np n : Nat) (c : Code) (Q : Post) : Post
  | .normal, s => TrL P N np n c s Q
  | e, s => Q e s
theorem trl_succ {n : Nat} {c : Code} (h : Tr P N np c st (roundQ P N np n c Q)) : TrL P N np (n + 1) c st Q :=
  fun Γ hN hn a w hs => by
    rw [rounds_succ]
    refine wp_mono (h Γ hN hn a w hs) fun e a' w' ⟨s, h1, h2⟩ => ?_
    cases e with
    | normal => exact h1 Γ hN hn a' w' h2
    | exit id => exact ⟨s, h1, h2⟩
    | goto l => exact ⟨s, h1, h2⟩
    | ret => exact ⟨s, h1, h2⟩
    | panic c => exact ⟨s, h1, h2⟩
    | outgrown => exact ⟨s, h1, h2⟩
theorem TrL.imp {n : Nat} {c : Code} {st' : St} (h : Imp np st st') (h' : TrL P N np n c st' Q) : TrL P N np n c st Q :=
  fun Γ hN hn a w hs => h' Γ hN hn a w (h Γ hn a w hs)
theorem tr_loop {n : Nat} {c : Code} (h : TrL P N np n c st Q) : Tr P N np (.loop c) st Q :=
  fun Γ hN hn a w hs => wp_loop_rounds n (h Γ hN hn a w hs)
theorem tr_region {id : Nat} {ops : Array Oper} {l : List Step} {st' : St} (hv : stepsOK P ops N 0 l) (hlen : l.length = ops.size) (hc : chain np (look st) l) (he : ∀ k e, look st' k = some e → runSteps (look st) l k = some e) (h : Q .normal st') :
    Tr P N np (.region id ops false) st Q := by
  intro Γ hN hn a w hs
  refine wp_region ?_
  have := seq_run (P := P) (ops := ops) hN (Q := PostA Γ Q) l 0 (look st) a w hv (hn ▸ hc) hs (fun a' w' hs' => by
    obtain ⟨S, β, Fs, hi⟩ := hs'
    obtain ⟨Fs', hi'⟩ := hi.weaken (g' := look st') he
    exact ⟨st', h, S, β, Fs', hi'⟩)
  rw [hlen] at this
  rwa [List.range_eq_range']
theorem tr_draw (hm : P.follows .mixedOrders = true) {id : Nat} {ops : Array Oper} {l : List Step} {st' : St} (hv : stepsOK P ops N 0 l) (hlen : l.length = ops.size) (hlex : lexG ops l 0 (Array.replicate ops.size false) = true)
    (hnm : namesG ops l = true) (hc : chainN (look st) l) (hf : ∀ s ∈ l, Names np (look st) s.fresh) (he : ∀ k e, look st' k = some e → runSteps (look st) l k = some e) (h : Q .normal st') :
    Tr P N np (.region id ops true) st Q := by
  intro Γ hN hn a w hs
  exact draw_run hN hm hv hlen hlex hnm hc (fun s hs => hn ▸ hf s hs) hs fun a' w' hs' => by
    obtain ⟨S, β, Fs, hi⟩ := hs'
    obtain ⟨Fs', hi'⟩ := hi.weaken (g' := look st') he
    exact ⟨st', h, S, β, Fs', hi'⟩
end
end Go.Gx
namespace Go.Gx
structure Roots (g : X) (w : World) (S : Nat → Prop) (β : Beta) (Fs : Nat → List Nat) : Prop where
  roots : ∀ r x, g (2 * r + 1) = some (.r x) → RootRep w S β x (β r) (Fs r)
  noroot : ∀ r, (∀ x, g (2 * r + 1) ≠ some (.r x)) → Fs r = []
  nodup : ∀ r, (Fs r).Nodup
  disj : ∀ r r', r ≠ r' → ∀ b ∈ Fs r, b ∉ Fs r'
  own : ∀ r, ∀ b ∈ Fs r, ¬ S b ∧ b < w.heap.size
  sOk : ∀ b, S b → b < w.heap.size
def rootSt (l : List (Nat × Root)) : St := l.map fun p => (2 * p.1 + 1, .r p.2)
def owned (Fs : Nat → List Nat) : Nat → Prop := fun b => ∃ r, b ∈ Fs r
def FnC (P : Program) (f : FuncId) (rin : List (Nat × Root)) (args : List D) (rout : List (Nat × Root)) (res : D) : Prop :=
  ∀ w S β Fs vs, Roots (look (rootSt rin)) w S β Fs → RepT w S args β vs [] →
    Calls P f vs.toArray w fun e w' => ∃ y S' Fs' F, e = .returned y ∧ Ext w w' (owned Fs) ∧ (∀ b, S b → S' b) ∧ (∀ b, S' b → b < w'.heap.size ∧ (S b ∨ owned Fs b ∨ w.heap.size ≤ b)) ∧
      Roots (look (rootSt rout)) w' S' β Fs' ∧ (∀ r b, b ∈ Fs' r → owned Fs b ∨ w.heap.size ≤ b) ∧
      Rep w' S' res β y F ∧ F.Nodup ∧ ∀ b ∈ F, ¬ S' b ∧ b < w'.heap.size ∧ (owned Fs b ∨ w.heap.size ≤ b) ∧ ∀ r, b ∉ Fs' r
theorem RepT_length {w : World} {S : Nat → Prop} : ∀ {ds : List D} {β : Beta} {ys : List Value} {F : List Nat}, RepT w S ds β ys F → ys.length = ds.length
  | [], _, ys, _, h => by unfold RepT at h; simp [h.1]
  | d :: ds, β, ys, F, h => by
    unfold RepT at h
    obtain ⟨y, ys', F1, F2, rfl, rfl, _, h2⟩ := h
    simp [RepT_length h2]
def own1 (st : St) : D → D × List Nat
  | .rs r off n => match look st (2 * r + 1) with
    | some (.r (.arr sz cells [])) => if off = 0 then (.fr sz n cells, [r]) else (.any, [])
    | _ => (.any, [])
  | .rp _ _ => (.any, [])
  | .rm _ => (.any, [])
  | d => (d, [])
def ownL (st : St) : List D → List D × List Nat
  | [] => ([], [])
  | d :: ds => ((own1 st d).1 :: (ownL st ds).1, (own1 st d).2 ++ (ownL st ds).2)
def own1P (st : St) : D → Prop
  | .rs r off n => match look st (2 * r + 1) with
    | some (.r (.arr sz cells [])) => if off = 0 then cells.length = n * sz else True
    | _ => True
  | _ => True
def ownLP (st : St) : List D → Prop
  | [] => True
  | d :: ds => own1P st d ∧ ownLP st ds
section
variable {Γ : Ctx} {g : X} {a : Act} {w : World} {S : Nat → Prop} {β : Beta} {Fs : Nat → List Nat} {st : St}
theorem own1_rs {st : St} {r off n : Nat} : (∃ sz cells, look st (2 * r + 1) = some (.r (.arr sz cells [])) ∧ off = 0 ∧ own1 st (.rs r off n) = (.fr sz n cells, [r])) ∨ own1 st (.rs r off n) = (.any, []) := by
  simp only [own1]
  split
  · rename_i sz cells hl
    split
    · rename_i h; exact .inl ⟨sz, cells, hl, h, rfl⟩
    · exact .inr rfl
  · exact .inr rfl
theorem own1_rep (hi : Inv Γ (look st) a w S β Fs) {d : D} {y : Value} {F : List Nat} {refs : List Nat} (hp : own1P st d) (h : Rep w S d (β.res refs) y F) (hsub : subRefs d.men refs = true) :
    ∃ F', Rep w S (own1 st d).1 β y F' ∧ F'.Perm (F ++ (own1 st d).2.flatMap Fs) := by
  have same : (own1 st d).1 = d → (own1 st d).2 = [] → ∃ F', Rep w S (own1 st d).1 β y F' ∧ F'.Perm (F ++ (own1 st d).2.flatMap Fs) := by
    intro e1 e2
    rw [e1, e2]
    exact ⟨F, h.unres hsub, by simp⟩
  have anyc : (own1 st d).1 = .any → (own1 st d).2 = [] → F = [] → ∃ F', Rep w S (own1 st d).1 β y F' ∧ F'.Perm (F ++ (own1 st d).2.flatMap Fs) := by
    intro e1 e2 e3
    rw [e1, e2, e3]
    exact ⟨[], by unfold Rep; rfl, by simp⟩
  cases d with
  | rs r off n =>
    have hF : F = [] := by unfold Rep at h; exact h.1
    rcases own1_rs (st := st) (r := r) (off := off) (n := n) with ⟨sz, cells, hl, rfl, e⟩ | e
    · have hlen : cells.length = n * sz := by simpa [own1P, hl] using hp
      rw [e]
      have hr := hi.roots r _ hl
      have h' := h.unres hsub
      unfold Rep at h'
      subst hF
      cases eb : β r with
      | none => rw [eb] at hr; exact hr.ne.elim
      | nil =>
        rw [eb] at h' hr
        obtain ⟨_, rfl, _, rfl⟩ := h'
        obtain ⟨rfl, hF0⟩ := hr
        exact ⟨[], by unfold Rep; exact ⟨_, _, rfl, by simp, by simp [menL], .inl ⟨rfl, rfl, rfl, rfl⟩⟩, by simp [hF0]⟩
      | blk b o' sz2 m2 =>
        rw [eb] at h' hr
        obtain ⟨_, cap, rfl, k1, k2⟩ := h'
        obtain ⟨rfl, pre, ys, rest, E, F', h1, h2, h3, hF', h5, h6⟩ := hr
        refine ⟨b :: F', ?_, by simp [hF']⟩
        unfold Rep
        refine ⟨_, _, rfl, hlen, ?_, .inr ⟨b, o', pre, ys, rest, E, F', by simp, k1, by rw [← h2]; simpa using k2, h1, h3, rfl, ?_⟩⟩
        · cases hm : menL cells with
          | nil => rfl
          | cons m l => have := h6 m (by rw [hm]; simp); simp at this
        · rw [noB_res (β := β)]; exact h5
    · rw [e, hF]
      exact ⟨[], by unfold Rep; rfl, by simp⟩
  | rp r off => exact anyc rfl rfl (by unfold Rep at h; exact h.1)
  | rm r => exact anyc rfl rfl (by unfold Rep at h; exact h.1)
  | any => exact same rfl rfl
  | v x => exact same rfl rfl
  | agg ds => exact same rfl rfl
  | tup ds => exact same rfl rfl
  | sl n off ds => exact same rfl rfl
  | pt ds off => exact same rfl rfl
  | fr sz n ds => exact same rfl rfl
  | fn f caps => exact same rfl rfl
  | ifc t d => exact same rfl rfl
  | bm es => exact same rfl rfl
  | fb f caps => exact same rfl rfl
  | fm f caps => exact same rfl rfl
  | fc f caps => exact same rfl rfl
theorem ownL_rep (hi : Inv Γ (look st) a w S β Fs) {refs : List Nat} : ∀ {ds : List D} {ys : List Value} {F : List Nat}, ownLP st ds → RepL w S ds (β.res refs) ys F → subRefs (menL ds) refs = true →
    ∃ F', RepL w S (ownL st ds).1 β ys F' ∧ F'.Perm (F ++ (ownL st ds).2.flatMap Fs)
  | [], ys, F, _, h, _ => by
    unfold RepL at h
    obtain ⟨rfl, rfl⟩ := h
    exact ⟨[], RepL_nil, by simp [ownL]⟩
  | d :: ds, ys, F, hp, h, hs => by
    unfold RepL at h
    obtain ⟨y, ys', F1, F2, rfl, rfl, h0, h1, h2⟩ := h
    have hs1 : subRefs d.men refs = true := List.all_eq_true.2 fun m hm => List.all_eq_true.1 hs m (by simp [menL, hm])
    have hs2 : subRefs (menL ds) refs = true := List.all_eq_true.2 fun m hm => List.all_eq_true.1 hs m (by simp [menL, hm])
    obtain ⟨Fa, a1, a2⟩ := own1_rep hi hp.1 h1 hs1
    obtain ⟨Fb, b1, b2⟩ := ownL_rep hi hp.2 h2 hs2
    refine ⟨Fa ++ Fb, RepL_cons h0 a1 b1, ?_⟩
    simp only [ownL, List.flatMap_append]
    refine (a2.append b2).trans ?_
    simp only [List.append_assoc]
    refine List.Perm.append_left F1 ?_
    rw [← List.append_assoc, ← List.append_assoc]
    exact List.Perm.append_right _ List.perm_append_comm
end
def outD (st : St) : ResultVar → Option (D × List Nat)
  | .tmp t => match look st (2 * t) with
    | some (.d (.agg ds)) => some (.agg (ownL st ds).1, (ownL st ds).2)
    | some (.d d) => some (own1 st d)
    | _ => none
  | .cell t _ => match look st (2 * t) with
    | some (.d (.rp r 0)) => match look st (2 * r + 1) with
      | some (.r (.arr _ cells _)) => some (.agg (ownL st cells).1, r :: (ownL st cells).2)
      | _ => none
    | some (.d (.pt ds 0)) => some (.agg ds, [])
    | _ => none
def outP (T : Tab) (st : St) : ResultVar → Prop
  | .tmp t => match look st (2 * t) with
    | some (.d (.agg ds)) => ownLP st ds
    | some (.d d) => own1P st d
    | _ => True
  | .cell t s => match look st (2 * t) with
    | some (.d (.rp r 0)) => match look st (2 * r + 1) with
      | some (.r (.arr _ cells refs)) => ownLP st cells ∧ subRefs (menL cells) refs = true ∧ (∃ i, T.get s = some i ∧ isAggD i.desc = true ∧ cells.length = i.size)
      | _ => True
    | some (.d (.pt ds 0)) => ∃ i, T.get s = some i ∧ isAggD i.desc = true ∧ ds.length = i.size
    | _ => True
def outs (st : St) : List ResultVar → Option (List D × List Nat)
  | [] => some ([], [])
  | v :: l => match outD st v, outs st l with
    | some (d, r), some (ds, rs) => some (d :: ds, r ++ rs)
    | _, _ => none
def outsP (T : Tab) (st : St) : List ResultVar → Prop
  | [] => True
  | v :: l => outP T st v ∧ outsP T st l
def resD : List D → D
  | [d] => d
  | ds => .tup ds
section
variable {P : Program} {T : Tab} {Γ : Ctx} {a : Act} {w : World} {S : Nat → Prop} {β : Beta} {Fs : Nat → List Nat} {st : St}
def resGet (a : Act) : ResultVar → Sem Value
  | .tmp t => pure (a.tmps.getD t undef)
  | .cell b t => do loadVar t (← asAddr (a.tmps.getD b undef))
def resVal (w : World) (P : Program) (a : Act) (v : ResultVar) (y : Value) : Prop := (resGet a v).run P w = .ok y w
theorem outD_rep (hT : TabOk P T) (hi : Inv Γ (look st) a w S β Fs) {v : ResultVar} {d : D} {l : List Nat} (h : outD st v = some (d, l)) (hp : outP T st v) :
    ∃ y F', resVal w P a v y ∧ Rep w S d β y F' ∧ ∃ G, (F' ++ G).Perm (l.flatMap Fs) := by
  cases v with
  | tmp t =>
    simp only [outD] at h
    simp only [outP] at hp
    cases hl : look st (2 * t) with
    | none => rw [hl] at h; cases h
    | some e =>
      cases e with
      | r x => rw [hl] at h; cases h
      | d dd =>
        have hs := hi.slots t dd hl
        by_cases hag : ∃ ds, dd = .agg ds
        · obtain ⟨ds, rfl⟩ := hag
          simp only [hl] at h hp
          cases h
          unfold Rep at hs
          obtain ⟨ys, e, hs⟩ := hs
          obtain ⟨F', h1, h2⟩ := ownL_rep hi (refs := menL ds) hp (hs.toRes (List.all_eq_true.2 fun m hm => List.contains_iff_mem.2 hm)) (List.all_eq_true.2 fun m hm => List.contains_iff_mem.2 hm)
          exact ⟨a.tmps.getD t undef, F', by simp [resVal, resGet], by unfold Rep; exact ⟨ys, e, h1⟩, [], by simpa using h2⟩
        · have e1 : (match some (Ent.d dd) with | some (.d (.agg ds)) => some (D.agg (ownL st ds).1, (ownL st ds).2) | some (.d d) => some (own1 st d) | _ => none) = some (own1 st dd) := by
            cases dd <;> first | rfl | (exact absurd ⟨_, rfl⟩ hag)
          have e2 : own1P st dd := by
            simp only [hl] at hp
            cases dd <;> first | exact hp | (exact absurd ⟨_, rfl⟩ hag)
          simp only [hl] at h
          rw [e1] at h
          simp only [Option.some.injEq] at h
          obtain ⟨F', h1, h2⟩ := own1_rep hi (refs := dd.men) e2 (hs.toRes (List.all_eq_true.2 fun m hm => List.contains_iff_mem.2 hm)) (List.all_eq_true.2 fun m hm => List.contains_iff_mem.2 hm)
          rw [h] at h1 h2
          exact ⟨a.tmps.getD t undef, F', by simp [resVal, resGet], h1, [], by simpa using h2⟩
  | cell t s =>
    simp only [outD] at h
    simp only [outP] at hp
    cases hl : look st (2 * t) with
    | none => simp only [hl] at h; cases h
    | some e =>
      simp only [hl] at h hp
      split at h
      · rename_i r heq
        cases heq
        split at h
        · rename_i sz cells refs hl2
          cases h
          simp only [hl2] at hp
          obtain ⟨hp1, hp2, i, hi1, hi2, hi3⟩ := hp
          have hs := hi.slots t _ hl
          have hr := hi.roots r _ hl2
          unfold Rep at hs
          cases eb : β r with
          | none => rw [eb] at hr; exact hr.ne.elim
          | nil => rw [eb] at hs; exact hs.2.elim
          | blk b o' sz2 m2 =>
            rw [eb] at hs hr
            obtain ⟨rfl, pre, ys, rest, E, F', h1, h2, h3, hF', h5, h6⟩ := hr
            obtain ⟨F2, k1, k2⟩ := ownL_rep hi (refs := refs) hp1 h5 hp2
            have hly := RepL_length h5
            have hseg : Seg w b o' ys := ⟨pre, rest, _, _, h1, h3⟩
            refine ⟨.agg ys.toArray, F2, ?_, by unfold Rep; exact ⟨ys, rfl, k1⟩, [b], ?_⟩
            · simp only [resVal, resGet]
              have hcells := run_loadCells_list (P := P) w ⟨b, o', .none⟩ ys (fun j u hj => by rw [add_lit]; exact hseg.cell hj)
              rw [hly, hi3] at hcells
              have hsa := hs.2
              simp only [Nat.add_zero] at hsa
              rw [hsa]
              simp only [asAddr, Sem.run_bind, Sem.run_pure, Result.andThen_ok, loadVar, isAgg_run hT hi1, hi2, if_true, (hT.get hi1).size, hcells]
            · simp only [List.flatMap_cons, hF']
              refine (List.Perm.append_right _ k2).trans ?_
              simp only [List.cons_append]
              exact (List.perm_append_comm (l₁ := F' ++ List.flatMap Fs (ownL st cells).snd) (l₂ := [b]))
        · cases h
      · rename_i ds heq
        cases heq
        cases h
        obtain ⟨i, hi1, hi2, hi3⟩ := hp
        have hs := hi.slots t _ hl
        unfold Rep at hs
        obtain ⟨_, hmn, b, o', ys, hsa, _, hseg, h5⟩ := hs
        have hly := RepL_length h5
        refine ⟨.agg ys.toArray, [], ?_, by unfold Rep; exact ⟨ys, rfl, RepL.beta _ _ _ (by rw [hmn]; simp) h5⟩, [], by simp⟩
        simp only [resVal, resGet]
        have hcells := run_loadCells_list (P := P) w ⟨b, o', .none⟩ ys (fun j u hj => by rw [add_lit]; exact hseg.cell hj)
        rw [hly, hi3] at hcells
        simp only [Nat.add_zero] at hsa
        rw [hsa]
        simp only [asAddr, Sem.run_bind, Sem.run_pure, Result.andThen_ok, loadVar, isAgg_run hT hi1, hi2, if_true, (hT.get hi1).size, hcells]
      · cases h
theorem outs_rep (hT : TabOk P T) (hi : Inv Γ (look st) a w S β Fs) : ∀ {vl : List ResultVar} {ds : List D} {l : List Nat}, outs st vl = some (ds, l) → outsP T st vl →
    ∃ (ys : List Value) (F' : List Nat), (vl.mapM (resGet a)).run P w = .ok ys w ∧ RepT w S ds β ys F' ∧ ys.length = ds.length ∧ ∃ G, (F' ++ G).Perm (l.flatMap Fs)
  | [], ds, l, h, _ => by
    simp only [outs, Option.some.injEq, Prod.mk.injEq] at h
    obtain ⟨rfl, rfl⟩ := h
    exact ⟨[], [], by simp, by unfold RepT; exact ⟨rfl, rfl⟩, rfl, [], by simp⟩
  | v :: vl, ds, l, h, hp => by
    unfold outs at h
    cases h1 : outD st v with
    | none => rw [h1] at h; cases h
    | some p =>
      obtain ⟨d, r⟩ := p
      cases h2 : outs st vl with
      | none => rw [h1, h2] at h; cases h
      | some q =>
        obtain ⟨ds', rs⟩ := q
        rw [h1, h2] at h
        simp only [Option.some.injEq, Prod.mk.injEq] at h
        obtain ⟨rfl, rfl⟩ := h
        obtain ⟨y, Fa, a1, a2, Ga, a3⟩ := outD_rep hT hi h1 hp.1
        obtain ⟨ys, Fb, b1, b2, b3, Gb, b4⟩ := outs_rep hT hi h2 hp.2
        refine ⟨y :: ys, Fa ++ Fb, ?_, by unfold RepT; exact ⟨y, ys, Fa, Fb, rfl, rfl, a2, b2⟩, by simp [b3], Ga ++ Gb, ?_⟩
        · rw [List.mapM_cons]
          unfold resVal at a1
          simp only [Sem.run_bind, a1, Result.andThen_ok, b1, Sem.run_pure]
        · simp only [List.flatMap_append]
          refine List.Perm.trans ?_ (a3.append b4)
          simp only [List.append_assoc]
          refine List.Perm.append_left Fa ?_
          rw [← List.append_assoc, ← List.append_assoc]
          exact List.Perm.append_right _ List.perm_append_comm
theorem results_run (hT : TabOk P T) (hi : Inv Γ (look st) a w S β Fs) {fn : Func} {ds : List D} {l : List Nat} (h : outs st fn.results.toList = some (ds, l)) (hp : outsP T st fn.results.toList) :
    ∃ y F', (results fn a.tmps).run P w = .ok y w ∧ Rep w S (resD ds) β y F' ∧ ∃ G, (F' ++ G).Perm (l.flatMap Fs) := by
  obtain ⟨ys, F', h1, h2, h3, G, h4⟩ := outs_rep hT hi h hp
  refine ⟨if h : ys.toArray.size = 1 then ys.toArray[0] else .tuple ys.toArray, F', ?_, ?_, G, h4⟩
  · have e : results fn a.tmps = (do let vs ← fn.results.mapM (resGet a); pure (if h : vs.size = 1 then vs[0] else .tuple vs)) := by
      unfold results resGet
      rfl
    rw [e, Array.mapM_eq_mapM_toList]
    simp only [Sem.run_bind, Sem.run_map, h1, Result.andThen_ok, Sem.run_pure]
  · match ds, ys, h3, h2 with
    | [], [], _, h2 => simp [resD, Rep, h2]
    | [d], [y], _, h2 =>
      unfold RepT at h2
      obtain ⟨y', ys', F1, F2, e1, rfl, h5, h6⟩ := h2
      unfold RepT at h6
      obtain ⟨rfl, rfl⟩ := h6
      simp at e1; subst e1
      simpa [resD] using h5
    | d1 :: d2 :: ds, y1 :: y2 :: ys, _, h2 => simp [resD, Rep, h2]
end
end Go.Gx
namespace Go.Gx
def argSt (i : Nat) : List D → St
  | [] => []
  | d :: ds => (2 * i, .d d) :: argSt (i + 1) ds
theorem look_argSt_odd : ∀ (ds : List D) (i r : Nat) (l : St), look (argSt i ds ++ l) (2 * r + 1) = look l (2 * r + 1)
  | [], _, _, _ => rfl
  | d :: ds, i, r, l => by
    show (if 2 * r + 1 = 2 * i then some (Ent.d d) else look (argSt (i + 1) ds ++ l) (2 * r + 1)) = _
    rw [if_neg (by omega), look_argSt_odd ds]
theorem look_rootSt_even : ∀ (l : List (Nat × Root)) (t : Nat), look (rootSt l) (2 * t) = none
  | [], _ => rfl
  | p :: l, t => by
    show (if 2 * t = 2 * p.1 + 1 then some (Ent.r p.2) else look (rootSt l) (2 * t)) = none
    rw [if_neg (by omega), look_rootSt_even l]
theorem look_argSt_even : ∀ (ds : List D) (i t : Nat) (l : List (Nat × Root)), look (argSt i ds ++ rootSt l) (2 * t) = if i ≤ t then (ds[t - i]?).map Ent.d else none
  | [], i, t, l => by
    show look (rootSt l) (2 * t) = _
    rw [look_rootSt_even]; simp
  | d :: ds, i, t, l => by
    show (if 2 * t = 2 * i then some (Ent.d d) else look (argSt (i + 1) ds ++ rootSt l) (2 * t)) = _
    by_cases h : t = i
    · subst h; simp
    · rw [if_neg (by omega), look_argSt_even ds]
      by_cases h2 : i + 1 ≤ t
      · rw [if_pos h2, if_pos (by omega), show t - i = (t - (i + 1)) + 1 by omega, List.getElem?_cons_succ]
      · rw [if_neg h2, if_neg (by omega)]
theorem look_rootSt_mem : ∀ {l : List (Nat × Root)} {r : Nat} {x : Root}, look (rootSt l) (2 * r + 1) = some (.r x) → (r, x) ∈ l
  | [], _, _, h => by simp [rootSt, look] at h
  | p :: l, r, x, h => by
    have h' : (if 2 * r + 1 = 2 * p.1 + 1 then some (Ent.r p.2) else look (rootSt l) (2 * r + 1)) = some (.r x) := h
    by_cases e : r = p.1
    · rw [if_pos (by omega)] at h'; simp at h'; subst h'; subst e; simp
    · rw [if_neg (by omega)] at h'; exact List.mem_cons_of_mem _ (look_rootSt_mem h')
theorem look_rootSt_odd : ∀ {l : List (Nat × Root)} {r : Nat} {e : Ent}, look (rootSt l) (2 * r + 1) = some e → ∃ x, e = .r x
  | [], _, _, h => by simp [rootSt, look] at h
  | p :: l, r, e, h => by
    have h' : (if 2 * r + 1 = 2 * p.1 + 1 then some (Ent.r p.2) else look (rootSt l) (2 * r + 1)) = some e := h
    by_cases e' : r = p.1
    · rw [if_pos (by omega)] at h'; simp at h'; exact ⟨_, h'.symm⟩
    · rw [if_neg (by omega)] at h'; exact look_rootSt_odd h'
def rootRefs : Root → List Nat
  | .arr _ _ refs => refs
  | .mp _ => []
structure RetQ (T : Tab) (fn : Func) (np : Nat) (rout : List (Nat × Root)) (res : D) (st : St) : Prop where
  ex : ∃ ds l, outs st fn.results.toList = some (ds, l) ∧ outsP T st fn.results.toList ∧ resD ds = res ∧ l.Nodup ∧ ∀ p ∈ rout, p.1 ∉ l
  rts : ∀ p ∈ rout, look st (2 * p.1 + 1) = some (.r p.2) ∧ p.1 < np ∧ ∀ q ∈ rootRefs p.2, q < np
  men : ∀ r ∈ res.men, r < np
def retQ (T : Tab) (fn : Func) (np : Nat) (rout : List (Nat × Root)) (res : D) : Post
  | .normal, st => RetQ T fn np rout res st
  | .ret, st => RetQ T fn np rout res st
  | _, _ => False
theorem RepT_get {w : World} {S : Nat → Prop} {β : Beta} : ∀ {ds : List D} {ys : List Value}, RepT w S ds β ys [] → ∀ (i : Nat) (d : D), ds[i]? = some d → Rep w S d β (ys.getD i undef) [] := by
  intro ds ys h i d hd
  obtain ⟨y, hy, hr⟩ := RepT_nilF_get h hd
  rw [List.getD_eq_getElem?_getD, hy]
  exact hr
section
variable {P : Program} {T : Tab} {f : FuncId} {fn : Func} {c : Code} {rin rout : List (Nat × Root)} {args : List D} {res : D}
theorem inv_start {np : Nat} {w : World} {S : Nat → Prop} {β : Beta} {Fs : Nat → List Nat} {vs : List Value} (hk : args.length ≤ fn.ntmps) (hR : Roots (look (rootSt rin)) w S β Fs) (hA : RepT w S args β vs []) :
    Inv ⟨fn.ntmps, np, w, S, owned Fs, β⟩ (look (argSt 0 args ++ rootSt rin)) { tmps := vs.toArray ++ Array.replicate (fn.ntmps - vs.toArray.size) undef, defers := [] } w S β Fs where
  defers := rfl
  size := by have := RepT_length hA; simp; omega
  slots := fun t d ht => by
    rw [look_argSt_even] at ht
    simp only [Nat.zero_le, if_true, Nat.sub_zero] at ht
    cases hd : args[t]? with
    | none => rw [hd] at ht; cases ht
    | some d' =>
      rw [hd] at ht
      simp at ht; subst ht
      have := RepT_get hA t d' hd
      have hlt : t < vs.length := by rw [RepT_length hA]; exact (List.getElem?_eq_some_iff.1 hd).1
      have e : (vs.toArray ++ Array.replicate (fn.ntmps - vs.toArray.size) undef).getD t undef = vs.getD t undef := by
        simp only [Array.getD_eq_getD_getElem?, List.getD_eq_getElem?_getD]
        rw [Array.getElem?_append_left (by simpa using hlt)]
        simp
      rw [e]; exact this
  roots := fun r x hr => hR.roots r x (by rwa [look_argSt_odd] at hr)
  noroot := fun r hr => hR.noroot r (fun x hx => hr x (by rwa [look_argSt_odd]))
  nodup := hR.nodup
  disj := hR.disj
  own := fun r b hb => ⟨(hR.own r b hb).1, (hR.own r b hb).2, .inl ⟨r, hb⟩⟩
  s0 := fun _ h => h
  sOk := fun b hb => ⟨hR.sOk b hb, .inl hb⟩
  ext := Ext.refl _ _
  fix := fun _ _ => rfl
theorem flat_nodup {Fs : Nat → List Nat} (hn : ∀ r, (Fs r).Nodup) (hd : ∀ r r', r ≠ r' → ∀ b ∈ Fs r, b ∉ Fs r') : ∀ {l : List Nat}, l.Nodup → (l.flatMap Fs).Nodup
  | [], _ => by simp
  | r :: l, h => by
    rw [List.flatMap_cons]
    obtain ⟨h1, h2⟩ := List.nodup_cons.1 h
    refine List.nodup_append.2 ⟨hn r, flat_nodup hn hd h2, fun a ha b hb e => ?_⟩
    subst e
    obtain ⟨r', hr', hb'⟩ := List.mem_flatMap.1 hb
    exact hd r r' (fun e => h1 (e ▸ hr')) a ha hb'
theorem fnc_intro {np : Nat} (hT : TabOk P T) (hf : P.funcs[f]? = some fn) (hb : fn.body = some c) (hk : args.length ≤ fn.ntmps)
    (h : Tr P fn.ntmps np c (argSt 0 args ++ rootSt rin) (retQ T fn np rout res)) : FnC P f rin args rout res := by
  intro w S β Fs vs hR hA
  refine calls_of_wp hf hb (wp_mono (h _ rfl rfl _ _ ⟨S, β, Fs, inv_start hk hR hA⟩) ?_)
  intro e a' w' hq
  obtain ⟨st, hq, S', β', Fs', hi⟩ := hq
  have fin : RetQ T fn np rout res st → a'.defers = [] ∧ ∃ v, (results fn a'.tmps).run P w' = .ok v w' ∧ ∃ y S' Fs' F, Ending.returned v = .returned y ∧ Ext w w' (owned Fs) ∧ (∀ b, S b → S' b) ∧
      (∀ b, S' b → b < w'.heap.size ∧ (S b ∨ owned Fs b ∨ w.heap.size ≤ b)) ∧ Roots (look (rootSt rout)) w' S' β Fs' ∧ (∀ r b, b ∈ Fs' r → owned Fs b ∨ w.heap.size ≤ b) ∧
      Rep w' S' res β y F ∧ F.Nodup ∧ ∀ b ∈ F, ¬ S' b ∧ b < w'.heap.size ∧ (owned Fs b ∨ w.heap.size ≤ b) ∧ ∀ r, b ∉ Fs' r := by
    intro hret
    obtain ⟨⟨ds, l, h1, h2, rfl, hln, hlr⟩, hrts, hmen⟩ := hret
    obtain ⟨y, F, hrun, hrep, G, hperm⟩ := results_run hT hi h1 h2
    have hFl : ∀ b ∈ F, ∃ r ∈ l, b ∈ Fs' r := fun b hb => by
      have := hperm.mem_iff.1 (List.mem_append_left G hb)
      obtain ⟨r, hr, hb⟩ := List.mem_flatMap.1 this
      exact ⟨r, hr, hb⟩
    have hFn : F.Nodup := (List.nodup_append.1 ((hperm.nodup_iff).2 (flat_nodup hi.nodup hi.disj hln))).1
    have hβ : ∀ r, r < np → β' r = β r := hi.fix
    have hout : ∀ r x, look (rootSt rout) (2 * r + 1) = some (.r x) → look st (2 * r + 1) = some (.r x) ∧ r < np ∧ ∀ q ∈ rootRefs x, q < np := fun r x hx => hrts (r, x) (look_rootSt_mem hx)
    let Ff : Nat → List Nat := fun r => match look (rootSt rout) (2 * r + 1) with | some _ => Fs' r | none => []
    have hFf : ∀ r b, b ∈ Ff r → b ∈ Fs' r := by
      intro r b hb
      show b ∈ Fs' r
      have hb' : b ∈ (match look (rootSt rout) (2 * r + 1) with | some _ => Fs' r | none => []) := hb
      split at hb'
      · exact hb'
      · simp at hb'
    refine ⟨hi.defers, y, hrun, y, S', Ff, F, rfl, hi.ext, hi.s0, hi.sOk, ?_, ?_, Rep.beta _ y F (fun r hr => (hβ r (hmen r hr)).symm) hrep, hFn, ?_⟩
    · exact {
        roots := fun r x hx => by
          obtain ⟨k1, k2, k3⟩ := hout r x hx
          have hr := hi.roots r x k1
          have e : Ff r = Fs' r := by
            show (match look (rootSt rout) (2 * r + 1) with | some _ => Fs' r | none => []) = Fs' r
            rw [hx]
          rw [e, ← hβ r k2]
          cases x with
          | arr sz cells refs =>
            have er : β'.res refs = β.res refs := by
              funext q
              unfold Beta.res
              by_cases hq : refs.contains q = true
              · rw [if_pos hq, if_pos hq]; exact hβ q (k3 q (by show q ∈ refs; simpa using hq))
              · rw [if_neg hq, if_neg hq]
            cases eb : β' r with
            | none => rw [eb] at hr; exact hr
            | nil => rw [eb] at hr; exact hr
            | blk b o sz' m => rw [eb] at hr; simpa only [RootRep, er] using hr
          | mp es => cases eb : β' r <;> rw [eb] at hr <;> exact hr
        noroot := fun r hr => by
          show (match look (rootSt rout) (2 * r + 1) with | some _ => Fs' r | none => []) = []
          split
          · rename_i e he
            obtain ⟨x, rfl⟩ := look_rootSt_odd he
            exact absurd he (hr x)
          · rfl
        nodup := fun r => by
          show (match look (rootSt rout) (2 * r + 1) with | some _ => Fs' r | none => []).Nodup
          split
          · exact hi.nodup r
          · exact List.nodup_nil
        disj := fun r r' hne b hb hb' => hi.disj r r' hne b (hFf r b hb) (hFf r' b hb')
        own := fun r b hb => ⟨(hi.own r b (hFf r b hb)).1, (hi.own r b (hFf r b hb)).2.1⟩
        sOk := fun b hb => (hi.sOk b hb).1 }
    · exact fun r b hb => (hi.own r b (hFf r b hb)).2.2
    · intro b hb
      obtain ⟨r, hr, hbr⟩ := hFl b hb
      have ho := hi.own r b hbr
      refine ⟨ho.1, ho.2.1, ho.2.2, fun q hq => ?_⟩
      by_cases e : q = r
      · subst e
        have hq' : b ∈ (match look (rootSt rout) (2 * q + 1) with | some _ => Fs' q | none => []) := hq
        split at hq'
        · rename_i e he
          obtain ⟨x, rfl⟩ := look_rootSt_odd he
          exact hlr (q, x) (look_rootSt_mem he) hr
        · simp at hq'
      · exact hi.disj q r e b (hFf q b hq) hbr
  cases e with
  | normal => exact fin hq
  | ret => exact fin hq
  | exit id => exact hq.elim
  | goto l => exact hq.elim
  | panic ch => exact hq.elim
  | outgrown => exact hq.elim
end
end Go.Gx
