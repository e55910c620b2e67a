/- Plain laws: inverses, isomorphisms among arrows. -/
import Derived.Test.YtpfdieaiogfihaaGxQv
import Derived.Test.YtpfdieaiogfihaaGxPn
import Derived.Test.YtpfdieaiogfihaaGxwVM
namespace Go.Gx
open Classical
set_option maxHeartbeats 1000000

theorem el_get {l : List Int} {k : Nat} (h : k < l.length) : el l (k : Int) = l[k] := by
  unfold el; simp [h]
theorem find_at {l : List Int} {p : Int → Bool} {i : Int} (h0 : 0 ≤ i) (h1 : i < (l.length : Int)) (hp : p (el l i) = true) (hn : ∀ j, 0 ≤ j → j < i → p (el l j) = false) : l.find? p = some (el l i) := by
  rw [List.find?_eq_some_iff_getElem]
  refine ⟨hp, i.toNat, by omega, ?_, fun j hj => ?_⟩
  · have := el_get (l := l) (k := i.toNat) (by omega)
    rw [Int.toNat_of_nonneg h0] at this; exact this.symm
  · have e := el_get (l := l) (k := j) (by omega)
    have := hn (j : Int) (by omega) (by omega)
    rw [e] at this; simp [this]
theorem find_none {l : List Int} {p : Int → Bool} (hn : ∀ j, 0 ≤ j → j < (l.length : Int) → p (el l j) = false) : l.find? p = none := by
  rw [List.find?_eq_none]
  intro x hx
  obtain ⟨i, i0, i1, rfl⟩ := mem_el hx
  simp [hn i i0 i1]

/-- g is inverse to f. -/
def InvP (c : XCategory) (f g : Int) : Prop := el c.Identity (el c.From f) = cmp c f g ∧ el c.Identity (el c.To f) = cmp c g f
/-- The first inverse of f, or -1. -/
noncomputable def invA (c : XCategory) (f : Int) : Int := ((homL c (el c.To f) (el c.From f)).find? fun g => decide (InvP c f g)).getD (-1)

theorem inv_back {c : XCategory} {f : Int} (f0 : 0 ≤ f) (f1 : f < (c.From.length : Int)) {i : Int} (i0 : 0 ≤ i) (i1 : i < ((homL c (el c.To f) (el c.From f)).length : Int)) :
    Ar c f (el c.From f) (el c.To f) ∧ Ar c (el (homL c (el c.To f) (el c.From f)) i) (el c.To f) (el c.From f) := by
  have h := homL_mem.1 (el_mem i0 i1)
  exact ⟨Ar.of f0 f1, ⟨h.1, h.2.1, h.2.2.1, h.2.2.2⟩⟩

theorem invA_yes {c : XCategory} {f i : Int} (i0 : 0 ≤ i) (i1 : i < ((homL c (el c.To f) (el c.From f)).length : Int)) (h : InvP c f (el (homL c (el c.To f) (el c.From f)) i))
    (hn : ∀ j, 0 ≤ j → j < i → ¬ InvP c f (el (homL c (el c.To f) (el c.From f)) j)) : invA c f = el (homL c (el c.To f) (el c.From f)) i := by
  unfold invA
  rw [find_at i0 i1 (decide_eq_true h) fun j j0 j1 => decide_eq_false (hn j j0 j1)]; rfl
theorem invA_no {c : XCategory} {f : Int} (hn : ∀ j, 0 ≤ j → j < ((homL c (el c.To f) (el c.From f)).length : Int) → ¬ InvP c f (el (homL c (el c.To f) (el c.From f)) j)) : invA c f = -1 := by
  unfold invA
  rw [find_none fun j j0 j1 => decide_eq_false (hn j j0 j1)]; rfl

theorem l02Inverse_eq {c : XCategory} (hc : Shp c) {f : Int} (f0 : 0 ≤ f) (f1 : f < (c.From.length : Int)) : M.spec_l02Inverse c f = some (invA c f) := by
  apply Ret.eq
  have lt := hc.lto
  have ll := homL_len hc (el c.To f) (el c.From f)
  unfold M.spec_l02Inverse
  refine Ret.idx f0 (by omega) (Ret.idx f0 f1 (Ret.call (l02Hom_eq hc _ _) ?_))
  refine Ret.all ((homL c (el c.To f) (el c.From f)).length : Int) (fun i => ¬ InvP c f (el (homL c (el c.To f) (el c.From f)) i)) (by omega) (by omega) ?_ ?_
  · intro i next i0 i1 hp hn
    obtain ⟨a, b⟩ := inv_back f0 f1 i0 i1
    rw [if_pos (decide_eq_true i1)]
    refine Ret.idx i0 i1 (Ret.call (a.th hc b) (Ret.call ((a.comp hc b).un hc) (Ret.ite (fun e1 => ?_) (fun e1 => hn (fun q => e1 (decide_eq_true q.1))))))
    refine Ret.call (b.th hc a) (Ret.call ((b.comp hc a).un hc) (Ret.ite (fun e2 => Ret.some ?_) (fun e2 => hn (fun q => e2 (decide_eq_true q.2)))))
    exact (invA_yes i0 i1 ⟨of_decide_eq_true e1, of_decide_eq_true e2⟩ hp).symm
  · intro next hp
    rw [if_neg (by simp)]
    exact Ret.some (invA_no hp).symm

theorem inverse_eq {c : XCategory} (hc : Shp c) {f : Int} (f0 : 0 ≤ f) (f1 : f < (c.From.length : Int)) : M.impl_Category_inverse c f = some (invA c f) := by
  apply Ret.eq
  have lt := hc.lto
  have li := hc.lid
  have ll := homL_len hc (el c.To f) (el c.From f)
  have x := hc.from_in f f0 f1
  have y := hc.to_in f f0 f1
  unfold M.impl_Category_inverse
  refine Ret.idx f0 f1 (Ret.idx f0 (by omega) (Ret.call (hom_eq hc _ _) ?_))
  refine Ret.all ((homL c (el c.To f) (el c.From f)).length : Int) (fun i => ¬ InvP c f (el (homL c (el c.To f) (el c.From f)) i)) (by omega) (by omega) ?_ ?_
  · intro i next i0 i1 hp hn
    obtain ⟨a, b⟩ := inv_back f0 f1 i0 i1
    rw [if_pos (decide_eq_true i1)]
    refine Ret.idx i0 i1 (Ret.call (a.ti hc b) (Ret.idx x.1 (by omega) (Ret.ite (fun e1 => ?_) (fun e1 => hn (fun q => e1 (beq_iff_eq.2 q.1.symm))))))
    refine Ret.call (b.ti hc a) (Ret.idx y.1 (by omega) (Ret.ite (fun e2 => Ret.some ?_) (fun e2 => hn (fun q => e2 (beq_iff_eq.2 q.2.symm)))))
    exact (invA_yes i0 i1 ⟨(beq_iff_eq.1 e1).symm, (beq_iff_eq.1 e2).symm⟩ hp).symm
  · intro next hp
    rw [if_neg (by simp)]
    exact Ret.some (invA_no hp).symm

/-- A loop that keeps the numbers with p. -/
theorem fil_loop {ρ : Type} {n : Int} (h0 : 0 ≤ n) (hf : n < 1048576) {p : Int → Bool} {step : List Int × Int → (List Int × Int → Option ρ) → Option ρ} {Q : ρ → Prop}
    (hgo : ∀ (i : Int) next, 0 ≤ i → i < n → (fil i p).length ≤ 1048576 → (p i = true → Ret (next (fil i p ++ [i], IntKind.i64.wrap (i + 1))) Q) → (p i = false → Ret (next (fil i p, IntKind.i64.wrap (i + 1))) Q) → Ret (step (fil i p, i) next) Q)
    (hend : ∀ next, Ret (step (fil n p, n) next) Q) : Ret (iter step fuel (([] : List Int), 0)) Q := by
  refine Ret.acc n (fun i s => s = fil i p) h0 (by omega) rfl ?_ ?_
  · rintro i s next i0 i1 rfl hn
    refine hgo i next i0 i1 (by have := fil_length_le i p; omega) (fun h => hn _ ?_) (fun h => hn _ ?_)
    · rw [fil_succ p i0, h]; rfl
    · rw [fil_succ p i0, h]; simp
  · rintro s next rfl
    exact hend next

/-- The places of the isomorphisms in a list of arrows. -/
noncomputable def isoL (c : XCategory) (l : List Int) : List Int := fil (l.length : Int) fun i => decide (0 ≤ invA c (el l i))

theorem l15Isos_eq {c : XCategory} (hc : Shp c) {l : List Int} (sl : (l.length : Int) ≤ 40) (hl : In (c.From.length : Int) l) : M.spec_l15Isos c l = some (isoL c l) := by
  apply Ret.eq
  unfold M.spec_l15Isos
  refine fil_loop (n := (l.length : Int)) (p := fun i => decide (0 ≤ invA c (el l i))) (by omega) (by omega) ?_ ?_
  · intro i next i0 i1 hs hy hn
    have a := hl i i0 i1
    dsimp only
    rw [if_pos (decide_eq_true i1)]
    refine Ret.idx i0 i1 (Ret.call (l02Inverse_eq hc a.1 a.2) (Ret.ite (fun e => Ret.chk ?_ (hy ?_)) (fun e => hn ?_)))
    · unfold lim; simp only [List.length_cons, List.length_nil]; omega
    · simpa using e
    · simpa using e
  · intro next
    dsimp only
    rw [if_neg (by simp)]
    exact Ret.some rfl
theorem isos_eq {c : XCategory} (hc : Shp c) {l : List Int} (sl : (l.length : Int) ≤ 40) (hl : In (c.From.length : Int) l) : M.impl_Category_isos c l = some (isoL c l) := by
  apply Ret.eq
  unfold M.impl_Category_isos
  refine fil_loop (n := (l.length : Int)) (p := fun i => decide (0 ≤ invA c (el l i))) (by omega) (by omega) ?_ ?_
  · intro i next i0 i1 hs hy hn
    have a := hl i i0 i1
    dsimp only
    rw [if_pos (decide_eq_true i1)]
    refine Ret.idx i0 i1 (Ret.call (inverse_eq hc a.1 a.2) (Ret.ite (fun e => Ret.chk ?_ (hy ?_)) (fun e => hn ?_)))
    · unfold lim; simp only [List.length_cons, List.length_nil]; omega
    · simpa using e
    · simpa using e
  · intro next
    dsimp only
    rw [if_neg (by simp)]
    exact Ret.some rfl
end Go.Gx
