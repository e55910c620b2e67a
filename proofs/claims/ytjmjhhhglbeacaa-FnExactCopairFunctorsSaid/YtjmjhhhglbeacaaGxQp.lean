/- Plain laws: pairs of lists; products of functors. -/
import Derived.Test.YtjmjhhhglbeacaaGxQf
import Derived.Test.YtjmjhhhglbeacaaGxPq
namespace Go.Gx
open Classical
set_option maxHeartbeats 1000000

/-- A product is small even where it does not fit. -/
theorem prodC_small0 {a b : XCategory} (ha : Shp a) (hb : Shp b) : SmallC (prodC a b) := by
  have hO := mulB ha.n0 ha.n8 hb.n0 hb.n8
  have hB := mulB (n := (a.From.length : Int)) (m := (b.From.length : Int)) (by omega) ha.m40 (by omega) hb.m40
  obtain ⟨l1, l2, l3, l4⟩ := prodC_len ha hb
  refine ⟨by unfold Small; omega, by unfold Small; omega, by unfold Small; omega, by unfold Small; omega, ?_⟩
  intro r hr
  obtain ⟨i, i0, i1, rfl⟩ := mem_el hr
  rw [l4] at i1
  have e : el (prodC a b).Composites i = pRow a b (i / (b.From.length : Int)) (i % (b.From.length : Int)) := by
    exact el_tab (f := fun k => pRow a b (k / (b.From.length : Int)) (k % (b.From.length : Int))) i0 i1
  rw [e]
  have l5 : ((pRow a b (i / (b.From.length : Int)) (i % (b.From.length : Int))).length : Int) = (a.From.length : Int) * (b.From.length : Int) := by
    simp only [pRow, tab2, tab_length]; omega
  unfold Small; omega

abbrev pairF (a b : List Int) (n : Int) (i j : Int) : Int := el a i * n + el b j
def pairL (a b : List Int) (n : Int) : List Int := tab2 (a.length : Int) (b.length : Int) (pairF a b n)
def zipL (a b : List Int) (n : Int) : List Int := tab (a.length : Int) fun i => el a i * n + el b i

/-- Codes of pairs are small numbers. -/
structure PairOk (a b : List Int) (n A : Int) : Prop where
  hA : A ≤ 40
  hn : n ≤ 40
  la : (a.length : Int) ≤ 40
  lb : (b.length : Int) ≤ 40
  ia : In A a
  ib : In n b

theorem PairOk.code {a b : List Int} {n A : Int} (h : PairOk a b n A) {i j : Int} (i0 : 0 ≤ i) (i1 : i < (a.length : Int)) (j0 : 0 ≤ j) (j1 : j < (b.length : Int)) :
    IntKind.i64.wrap (IntKind.i64.wrap (el a i * n) + el b j) = el a i * n + el b j := by
  have x := h.ia i i0 i1
  have y := h.ib j j0 j1
  have hm := mulb x.1 x.2 y.1 y.2
  have hA := h.hA
  have hn := h.hn
  have hB := mulB (n := A) (m := n) (N := 40) (M := 40) (by omega) hA (by omega) hn
  exact wrap2 (by omega) (by omega) (by omega)
theorem PairOk.len {a b : List Int} {n A : Int} (h : PairOk a b n A) {i j : Int} (i0 : 0 ≤ i) (i1 : i < (a.length : Int)) (j0 : 0 ≤ j) (j1 : j < (b.length : Int)) (F : Int → Int) :
    ((tab (i * (b.length : Int) + j) F).length : Int) ≤ 1600 := by
  have hb1 := mulb i0 i1 j0 j1
  have hB := mulB (n := (a.length : Int)) (m := (b.length : Int)) (N := 40) (M := 40) (by omega) h.la (by omega) h.lb
  rw [tab_len' _ _ (by omega)]; omega
theorem PairOk.small {a b : List Int} {n A : Int} (h : PairOk a b n A) : Small (pairL a b n) := by
  have hB := mulB (n := (a.length : Int)) (m := (b.length : Int)) (N := 40) (M := 40) (by omega) h.la (by omega) h.lb
  unfold Small pairL; rw [tab_len' _ _ hB.1]; omega

theorem fits_prod {a b : XCategory} (ha : Shp a) (hb : Shp b) : M.spec_l02Fits (prodC a b) = some (decide (PFits a b)) := by
  rw [l02Fits_eq, (prodC_len ha hb).1]
  congr 1
  unfold PFits
  rw [Bool.eq_iff_iff]
  simp only [Bool.and_eq_true, decide_eq_true_eq]
  exact Iff.rfl

theorem pairOk_o {f g : XFunctor} (hf : IsFun f) (hg : IsFun g) : PairOk f.Objects g.Objects g.Target.Objects f.Target.Objects := by
  have a1 := hf.1.1.shp
  have a2 := hf.2.1.1.shp
  have b1 := hg.1.1.shp
  have b2 := hg.2.1.1.shp
  have l1 := hf.2.2.lo
  have l2 := hg.2.2.lo
  have x1 := a1.n8
  have x2 := a2.n8
  have x3 := b1.n8
  have x4 := b2.n8
  exact ⟨by omega, by omega, by omega, by omega, hf.2.2.ino, hg.2.2.ino⟩
theorem pairOk_a {f g : XFunctor} (hf : IsFun f) (hg : IsFun g) : PairOk f.Arrows g.Arrows (g.Target.From.length : Int) (f.Target.From.length : Int) := by
  have a1 := hf.1.1.shp
  have a2 := hf.2.1.1.shp
  have b1 := hg.1.1.shp
  have b2 := hg.2.1.1.shp
  have l1 := hf.2.2.la
  have l2 := hg.2.2.la
  have x1 := a1.m40
  have x2 := a2.m40
  have x3 := b1.m40
  have x4 := b2.m40
  exact ⟨by omega, by omega, by omega, by omega, hf.2.2.ina, hg.2.2.ina⟩

/-- A loop that pushes F 0, F 1, .. -/
theorem push_loop {α ρ : Type} {n : Int} (h0 : 0 ≤ n) (hf : n < 4294967296) {F : Int → α} {step : List α × Int → (List α × Int → Option ρ) → Option ρ} {Q : ρ → Prop}
    (hgo : ∀ (i : Int) next, 0 ≤ i → i < n → ((tab i F).length : Int) = i → Ret (next (tab i F ++ [F i], IntKind.i64.wrap (i + 1))) Q → Ret (step (tab i F, i) next) Q)
    (hend : ∀ next, Ret (step (tab n F, n) next) Q) : Ret (iter step fuel (([] : List α), 0)) Q := by
  refine Ret.acc n (fun i s => s = tab i F) h0 hf rfl ?_ ?_
  · rintro i s next i0 i1 rfl hn
    exact hgo i next i0 i1 (tab_len' _ _ i0) (hn _ (tab_succ F i0).symm)
  · rintro s next rfl
    exact hend next

end Go.Gx
