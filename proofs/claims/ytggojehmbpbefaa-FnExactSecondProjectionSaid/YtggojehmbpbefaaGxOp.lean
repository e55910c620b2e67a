/- OPEN: readable data stand for a model's value. -/
import Derived.Test.YtggojehmbpbefaaGxY
import Derived.ChangeArms
import Derived.DataReads
import Derived.OpenShut
namespace Go.Gx

/-- Everything that is there. -/
def allS (w : World) : Nat → Prop := fun b => b < w.heap.size

structure ReadsAs (P : Program) (t : TypeId) {α : Type} (e : Enc α) (R : α → Prop) : Prop where
  cells : P.cellsOf t = e.sz
  reads : ∀ {H : Type} {enc : TypeId × Value → H} {w : World} {base : Nat} {spare : Nat → Bool} {held : Bool} {fuel : Nat} {cs : List Value} {x : DataW H × List MemPlace},
    DataW.trod enc P w base spare held fuel t cs = some x → ∃ v, R v ∧ RepL w (allS w) (e.b v) noB cs []

def I64 (n : Int) : Prop := -9223372036854775808 ≤ n ∧ n ≤ 9223372036854775807
def AllL {α : Type} (R : α → Prop) (xs : List α) : Prop := (xs.length : Int) ≤ 9223372036854775807 ∧ ∀ x ∈ xs, R x

theorem wf_i64 {n : Int} (h : (Lit.int .i64 n).wf = true) : I64 n := by
  unfold Lit.wf at h
  rw [Bool.and_eq_true, decide_eq_true_eq, decide_eq_true_eq] at h
  have e1 : IntKind.i64.min = -9223372036854775808 := by decide
  have e2 : IntKind.i64.max = 9223372036854775807 := by decide
  rw [e1, e2] at h
  exact h

section
variable {P : Program} {t : TypeId}

theorem reads_int (ht : P.underlying t = some (.int .i64)) (hc : P.cellsOf t = 1) : ReadsAs P t eI I64 where
  cells := hc
  reads := fun h => by
    obtain ⟨n, rfl, _, hw⟩ := DataW.trod_int ht h
    exact ⟨n, wf_i64 hw, RepL_cons (F1 := []) (F2 := []) rfl (by unfold iv Rep; exact ⟨rfl, rfl⟩) RepL_nil⟩

theorem reads_bool (ht : P.underlying t = some .bool) (hc : P.cellsOf t = 1) : ReadsAs P t eB (fun _ => True) where
  cells := hc
  reads := fun h => by
    obtain ⟨n, rfl, _⟩ := DataW.trod_bool ht h
    exact ⟨n, trivial, RepL_cons (F1 := []) (F2 := []) rfl (by unfold bv Rep; exact ⟨rfl, rfl⟩) RepL_nil⟩

theorem reads_string (ht : P.underlying t = some .string) (hc : P.cellsOf t = 1) : ReadsAs P t eStr (fun s => (s.size : Int) ≤ 9223372036854775807) where
  cells := hc
  reads := fun h => by
    obtain ⟨n, rfl, _, hs⟩ := DataW.trod_string ht h
    exact ⟨n, by unfold maxLen at hs; omega, RepL_cons (F1 := []) (F2 := []) rfl (by unfold Rep; exact ⟨rfl, rfl⟩) RepL_nil⟩

theorem chop {α : Type} {e : Enc α} (hl : ∀ v, (e.b v).length = e.sz) {R : α → Prop} {w : World} {g : Nat → Option Value} : ∀ m : Nat,
    (∀ i, i < m → ∃ (v : α) (cs : List Value), R v ∧ cs.length = e.sz ∧ (∀ j, j < e.sz → g (i * e.sz + j) = cs[j]?) ∧ RepL w (allS w) (e.b v) noB cs []) →
    ∃ (vs : List α) (ys : List Value), vs.length = m ∧ (∀ v ∈ vs, R v) ∧ ys.length = m * e.sz ∧ (∀ j, j < m * e.sz → g j = ys[j]?) ∧ RepL w (allS w) (vs.flatMap e.b) noB ys []
  | 0, _ => ⟨[], [], rfl, by simp, by simp, by simp, by simpa using RepL_nil⟩
  | m + 1, h => by
    obtain ⟨vs, ys, h1, h2, h3, h4, h5⟩ := chop hl m fun i hi => h i (by omega)
    obtain ⟨v, cs, g1, g2, g3, g4⟩ := h m (by omega)
    refine ⟨vs ++ [v], ys ++ cs, by simp [h1], ?_, by rw [List.length_append, h3, g2, Nat.succ_mul], ?_, ?_⟩
    · intro x hx
      rcases List.mem_append.1 hx with hx | hx
      · exact h2 x hx
      · obtain rfl := List.mem_singleton.1 hx; exact g1
    · intro j hj
      rw [Nat.succ_mul] at hj
      by_cases hlt : j < m * e.sz
      · rw [List.getElem?_append_left (by omega)]; exact h4 j hlt
      · rw [List.getElem?_append_right (by omega), h3, ← g3 (j - m * e.sz) (by omega)]
        congr 1; omega
    · rw [List.flatMap_append]
      have := RepL_append_mk h5 g4
      simpa using this

theorem reads_slice {e : TypeId} {α : Type} {en : Enc α} {R : α → Prop} (ht : P.underlying t = some (.slice e)) (hc : P.cellsOf t = 1) (hpos : 0 < en.sz) (hok : EncOk en) (h : ReadsAs P e en R) :
    ReadsAs P t (eS en) (AllL R) where
  cells := hc
  reads := fun {H enc w base spare held fuel cs x} hd => by
    rcases DataW.trod_slice ht hd with ⟨rfl, _⟩ | ⟨a, len, cap, elems, rest, n, _, rfl, _, hb, hlc, hm, hlen, hel, _, _⟩
    · refine ⟨[], ⟨by simp, by simp⟩, RepL_cons (F1 := []) (F2 := []) rfl ?_ RepL_nil⟩
      unfold Rep
      exact ⟨rfl, rfl, none, 0, rfl, .inl rfl⟩
    · have hpt : ∀ i, i < len → ∃ v cs, R v ∧ cs.length = en.sz ∧ (∀ j, j < en.sz → w.cell? (a.add (i * en.sz + j)) = cs[j]?) ∧ RepL w (allS w) (en.b v) noB cs [] := by
        intro i hi
        have h1 := hel i hi
        rw [List.getElem?_eq_getElem (by omega), Option.bind_eq_some_iff] at h1
        obtain ⟨cs, h2, h3⟩ := h1
        obtain ⟨_, h4, h5⟩ := World.cells?_some h2
        obtain ⟨v, h6, h7⟩ := h.reads h3
        rw [h.cells] at h4 h5
        refine ⟨v, cs, h6, h4, fun j hj => ?_, h7⟩
        rw [← h5 j hj]
        congr 1
        unfold Addr.add
        by_cases e1 : i * en.sz = 0 <;> by_cases e2 : j = 0 <;> simp [e1, e2]
        omega
      obtain ⟨vs, ys, g1, g2, g3, g4, g5⟩ := chop (R := R) (w := w) (g := fun j => w.cell? (a.add j)) hok.lenB len hpt
      refine ⟨vs, ⟨by unfold maxLen at hm; omega, g2⟩, RepL_cons (F1 := []) (F2 := []) rfl ?_ RepL_nil⟩
      unfold Rep
      refine ⟨rfl, menL_flatMap hok.menB vs, some a, cap, by rw [g1], ?_⟩
      by_cases h0 : len = 0
      · exact .inl (by rw [g1, h0])
      · right
        have hne : 0 < len * en.sz := Nat.mul_pos (by omega) hpos
        have hsome : ∀ j, j < len * en.sz → ∃ y, w.cell? (a.add j) = some y := fun j hj => ⟨ys[j]'(by omega), by rw [g4 j hj, List.getElem?_eq_getElem]⟩
        have hspot : a.spot = none := by
          obtain ⟨y, hy⟩ := hsome 0 hne
          exact World.cell?_spot hy
        obtain ⟨bk, off, sp⟩ := a
        obtain rfl : sp = none := hspot
        have hcell : ∀ j, j < len * en.sz → ∃ c E fz, w.heap[bk]? = some (.cells c E fz) ∧ c[off + j]? = ys[j]? := by
          intro j hj
          obtain ⟨y, hy⟩ := hsome j hj
          have hy2 := g4 j hj
          rw [hy] at hy2
          have ea : (Addr.add ⟨bk, off, none⟩ j) = ⟨bk, off + j, none⟩ := by
            unfold Addr.add; split
            · rename_i hz; simp [hz]
            · rfl
          rw [ea] at hy
          unfold World.cell? at hy
          split at hy
          · rename_i c E fz hh
            simp at hy
            exact ⟨c, E, fz, hh, by rw [hy, hy2]⟩
          · cases hy
        obtain ⟨c, E, fz, hh, _⟩ := hcell 0 hne
        have hall : ∀ j, j < len * en.sz → c[off + j]? = ys[j]? := by
          intro j hj
          obtain ⟨c', E', fz', hh', h'⟩ := hcell j hj
          rw [hh] at hh'
          cases hh'
          exact h'
        have hsz : off + len * en.sz ≤ c.size := by
          have h1 := hall (len * en.sz - 1) (by omega)
          rw [List.getElem?_eq_getElem (by omega)] at h1
          have := (Array.getElem?_eq_some_iff.1 h1).1
          omega
        refine ⟨bk, off, ys, by simp, ?_, ?_, g5⟩
        · show bk < w.heap.size
          exact (Array.getElem?_eq_some_iff.1 hh).1
        · refine ⟨c.toList.take off, c.toList.drop (off + len * en.sz), E, fz, ?_, by simp; omega⟩
          rw [hh]
          congr 2
          apply Array.ext'
          simp only []
          have hys : (c.toList.drop off).take (len * en.sz) = ys := by
            apply List.ext_getElem?
            intro j
            rw [List.getElem?_take]
            split
            · rename_i hj
              rw [List.getElem?_drop, Array.getElem?_toList]
              exact hall j hj
            · rename_i hj
              rw [List.getElem?_eq_none (by omega)]
          rw [← hys, List.append_assoc, ← List.drop_drop, List.take_append_drop, List.take_append_drop]

/-- Fields after each other. -/
structure SegAs (P : Program) (fs : List Field) (off len : Nat) {α : Type} (e : Enc α) (R : α → Prop) : Prop where
  size : len = e.sz
  reads : ∀ {H : Type} {enc : TypeId × Value → H} {w : World} {base : Nat} {spare : Nat → Bool} {held : Bool} {fuel : Nat} {cs : List Value},
    (∀ f ∈ fs, ∃ x, DataW.trod enc P w base spare held fuel f.type ((cs.drop f.offset).take (P.cellsOf f.type)) = some x) → ∃ v, R v ∧ RepL w (allS w) (e.b v) noB ((cs.drop off).take len) []

def eX {α β : Type} (e : Enc α) (e' : Enc β) : Enc (α × β) := ⟨e.sz + e'.sz, fun x => e.b x.1 ++ e'.b x.2, fun x => e.o x.1 ++ e'.o x.2⟩

theorem seg_one {f : Field} {off : Nat} {α : Type} {e : Enc α} {R : α → Prop} (ho : f.offset = off) (h : ReadsAs P f.type e R) : SegAs P [f] off e.sz e R where
  size := rfl
  reads := fun hf => by
    obtain ⟨x, hx⟩ := hf f (by simp)
    rw [h.cells, ho] at hx
    exact h.reads hx

theorem seg_cons {f : Field} {fs : List Field} {off len : Nat} {α β : Type} {e : Enc α} {e' : Enc β} {R : α → Prop} {R' : β → Prop} (ho : f.offset = off) (h : ReadsAs P f.type e R)
    (h' : SegAs P fs (off + e.sz) len e' R') : SegAs P (f :: fs) off (e.sz + len) (eX e e') (fun x => R x.1 ∧ R' x.2) where
  size := by rw [h'.size]; rfl
  reads := fun {H enc w base spare held fuel cs} hf => by
    obtain ⟨x, hx⟩ := hf f (by simp)
    rw [h.cells, ho] at hx
    obtain ⟨v, h1, h2⟩ := h.reads hx
    obtain ⟨v', h3, h4⟩ := h'.reads fun g hg => hf g (by simp [hg])
    refine ⟨(v, v'), ⟨h1, h3⟩, ?_⟩
    have := RepL_append_mk h2 h4
    rw [← List.drop_drop] at this
    rw [List.take_add]
    simpa [eX] using this

theorem reads_struct {fs : Array Field} {α γ : Type} {e' : Enc α} {e : Enc γ} {R' : α → Prop} {len : Nat} (ht : P.underlying t = some (.struct fs)) (hc : P.cellsOf t = len) (hs : SegAs P fs.toList 0 len e' R') (mk : α → γ)
    (he : ∀ v, e.b (mk v) = e'.b v) (hz : e.sz = e'.sz) (R : γ → Prop) (hR : ∀ v, R' v → R (mk v)) : ReadsAs P t e R where
  cells := by rw [hc, hs.size, hz]
  reads := fun {H enc w base spare held fuel cs x} hd => by
    obtain ⟨xs, n, rfl, _, hl, hx, hf⟩ := DataW.trod_struct ht hd
    have hsz := hs.size
    obtain ⟨v, h1, h2⟩ := hs.reads (enc := enc) (w := w) (base := base) (spare := spare) (held := held) (fuel := n) (cs := cs) (by
      intro f hm
      obtain ⟨i, hi, rfl⟩ := List.mem_iff_getElem.1 hm
      have hi' : i < fs.size := by simpa using hi
      refine ⟨xs[i]'(by omega), ?_⟩
      rw [hf i fs.toList[i] (by simp [hi']), List.getElem?_eq_getElem])
    refine ⟨mk v, hR v h1, ?_⟩
    rw [he]
    rw [List.drop_zero, List.take_of_length_le (by omega)] at h2
    exact h2
end
end Go.Gx
