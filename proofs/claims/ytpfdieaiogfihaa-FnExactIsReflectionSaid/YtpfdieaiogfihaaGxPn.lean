/- Plain laws: hom sets, profunctors of functors. -/
import Derived.Test.YtpfdieaiogfihaaGxPu
import Derived.Test.YtpfdieaiogfihaaGxL12M
namespace Go.Gx
open Classical
set_option maxHeartbeats 2000000

def homL (c : XCategory) (x y : Int) : List Int := fil (c.From.length : Int) fun s => el c.From s == x && el c.To s == y

theorem l02Hom_eq {c : XCategory} (h : Shp c) (x y : Int) : M.spec_l02Hom c x y = some (homL c x y) := by
  apply Ret.eq
  have m40 := h.m40
  have lto := h.lto
  unfold M.spec_l02Hom
  refine Ret.acc (c.From.length : Int) (fun i a => a = fil i fun s => el c.From s == x && el c.To s == y) (by omega) (by omega) rfl ?_ ?_
  · rintro i a next hi0 hi1 rfl hn1
    have hle := fil_length_le i fun s => el c.From s == x && el c.To s == y
    dsimp only
    simp only [decide_eq_true_eq, beq_iff_eq]
    rw [if_pos hi1]
    refine Ret.idx hi0 hi1 (Ret.ite (fun h1 => Ret.idx hi0 (by omega) (Ret.ite (fun h2 => Ret.chk (by unfold lim; simp only [List.length_cons, List.length_nil]; omega) (hn1 _ ?_)) (fun h2 => hn1 _ ?_))) (fun h1 => hn1 _ ?_))
    · rw [fil_succ _ hi0]; simp [h1, h2]
    · rw [fil_succ _ hi0]; simp [h2]
    · rw [fil_succ _ hi0]; simp [h1]
  · rintro a next rfl
    dsimp only
    simp only [decide_eq_true_eq]
    rw [if_neg (by omega)]
    exact Ret.some rfl

theorem hom_eq {c : XCategory} (h : Shp c) (x y : Int) : M.impl_Category_hom c x y = some (homL c x y) := l02Hom_eq h x y

theorem homL_len {c : XCategory} (h : Shp c) (x y : Int) : ((homL c x y).length : Int) ≤ 40 := by
  have := fil_length_le (c.From.length : Int) fun s => el c.From s == x && el c.To s == y
  have m40 := h.m40
  unfold homL
  omega
theorem homL_mem {c : XCategory} {x y s : Int} : s ∈ homL c x y ↔ 0 ≤ s ∧ s < (c.From.length : Int) ∧ el c.From s = x ∧ el c.To s = y := by
  unfold homL
  rw [fil_mem, Bool.and_eq_true, beq_iff_eq, beq_iff_eq]

noncomputable def indexL (l : List Int) (v : Int) : Int := (M.spec_l01Index l v).getD (-1)
theorem l01Index_eq {l : List Int} (h : Small l) (v : Int) : M.spec_l01Index l v = some (indexL l v) := by
  have h1 : Ret (M.spec_l01Index l v) fun _ => True := by
    unfold M.spec_l01Index
    simp only [decide_eq_true_eq]
    refine Ret.all (l.length : Int) (fun _ => True) (by omega) (by omega) ?_ ?_
    · intro i next hi0 hi1 hp hn1
      rw [if_pos hi1]
      exact Ret.idx hi0 hi1 (Ret.ite (fun _ => Ret.some trivial) (fun _ => hn1 trivial))
    · intro next hp
      rw [if_neg (by omega)]
      exact Ret.some trivial
  obtain ⟨r, e, _⟩ := h1
  unfold indexL
  rw [e]; rfl
theorem index_eq {l : List Int} (h : Small l) (v : Int) : M.impl_index_int64 l v = some (indexL l v) := by
  have e : M.slices_Index_int64_int64 l v = M.spec_l01Index l v := by
    unfold M.slices_Index_int64_int64 M.spec_l01Index
    have : ∀ y : Int, (v == y) = (y == v) := fun y => by rw [Bool.eq_iff_iff, beq_iff_eq, beq_iff_eq]; exact eq_comm
    simp only [this]
  unfold M.impl_index_int64
  rw [e, l01Index_eq h v]; rfl

/-! ### the profunctor of two functors with one target -/
structure Two (f g : XFunctor) : Prop where
  sf : Shp f.Source
  sg : Shp g.Source
  st : Shp f.Target
  lo : (f.Objects.length : Int) = f.Source.Objects
  la : (f.Arrows.length : Int) = (f.Source.From.length : Int)
  lo' : (g.Objects.length : Int) = g.Source.Objects
  la' : (g.Arrows.length : Int) = (g.Source.From.length : Int)
  ia : In (f.Target.From.length : Int) f.Arrows
  ia' : In (f.Target.From.length : Int) g.Arrows

abbrev atL (f g : XFunctor) (x y : Int) : List Int := homL f.Target (el f.Objects x) (el g.Objects y)
noncomputable def befL (f g : XFunctor) (a y : Int) : List Int := (atL f g (el f.Source.To a) y).map fun h => indexL (atL f g (el f.Source.From a) y) (cmp f.Target (el f.Arrows a) h)
noncomputable def behL (f g : XFunctor) (b x : Int) : List Int := (atL f g x (el g.Source.From b)).map fun h => indexL (atL f g x (el g.Source.To b)) (cmp f.Target h (el g.Arrows b))
noncomputable def natP (f g : XFunctor) : XProfunctor :=
  ⟨f.Source, g.Source, tab f.Source.Objects fun x => tab g.Source.Objects fun y => ((atL f g x y).length : Int),
    tab (f.Source.From.length : Int) fun a => tab g.Source.Objects fun y => befL f g a y, tab (g.Source.From.length : Int) fun b => tab f.Source.Objects fun x => behL f g b x⟩

/-- A loop that pushes F of each entry. -/
theorem map_loop {ρ : Type} {l : List Int} (h : Small l) {F : Int → Int} {step : List Int × Int → (List Int × Int → Option ρ) → Option ρ} {Q : ρ → Prop}
    (hgo : ∀ (i : Int) (s : List Int) next, 0 ≤ i → i < (l.length : Int) → s.length ≤ 1048576 → Ret (next (s ++ [F (el l i)], IntKind.i64.wrap (i + 1))) Q → Ret (step (s, i) next) Q)
    (hend : ∀ next, Ret (step (l.map F, (l.length : Int)) next) Q) : Ret (iter step fuel (([] : List Int), 0)) Q := by
  refine Ret.acc (l.length : Int) (fun i s => s = (l.take i.toNat).map F) (by omega) (by omega) (by simp) ?_ ?_
  · rintro i s next i0 i1 rfl hn
    refine hgo i _ next i0 i1 ?_ (hn _ ?_)
    · rw [List.length_map, List.length_take]; omega
    · rw [take_succ_el i0 i1, List.map_append]; rfl
  · rintro s next rfl
    have := hend next
    simpa using this

theorem l22Natural_eq {f g : XFunctor} (ss : SmallC f.Source) (sg : SmallC g.Source) (h : Two f g) : M.spec_l22Natural f g = some (natP f g) := by
  apply Ret.eq
  obtain ⟨hf, hg, ht, lo, la, lo', la', ia, ia'⟩ := h
  have f0 := hf.n0
  have f8 := hf.n8
  have g0 := hg.n0
  have g8 := hg.n8
  have fm := hf.m40
  have gm := hg.m40
  have ft := hf.lto
  have gt := hg.lto
  have tc := ht.lco
  have small : ∀ x y, Small (atL f g x y) := fun x y => by have h40 : ((atL f g x y).length : Int) ≤ 40 := homL_len ht (el f.Objects x) (el g.Objects y); unfold Small; omega
  unfold M.spec_l22Natural
  refine Ret.call (l02Own_eq ss) (Ret.call (l02Own_eq sg) ?_)
  refine Ret.acc f.Source.Objects (fun i s => s = tab i fun x => tab g.Source.Objects fun y => ((atL f g x y).length : Int)) f0 (by omega) rfl ?_ ?_
  · rintro x s next x0 x1 rfl hn1
    dsimp only
    simp only [decide_eq_true_eq]
    rw [if_pos x1]
    refine Ret.acc g.Source.Objects (fun j s => s = tab j fun y => ((atL f g x y).length : Int)) g0 (by omega) rfl ?_ ?_
    · rintro y s next y0 y1 rfl hn2
      dsimp only
      rw [if_pos y1]
      refine Ret.idx x0 (by omega) (Ret.idx y0 (by omega) (Ret.call (l02Hom_eq ht _ _) (Ret.chk ?_ (hn2 _ (tab_succ (fun y => ((atL f g x y).length : Int)) y0).symm))))
      rw [tab_length]; unfold lim; simp only [List.length_cons, List.length_nil]; omega
    · rintro s next rfl
      dsimp only
      rw [if_neg (by omega)]
      refine Ret.chk ?_ (hn1 _ (tab_succ (fun x => tab g.Source.Objects fun y => ((atL f g x y).length : Int)) x0).symm)
      rw [tab_length]; unfold lim; omega
  · rintro s next rfl
    dsimp only
    simp only [decide_eq_true_eq]
    rw [if_neg (by omega)]
    refine Ret.acc (f.Source.From.length : Int) (fun i s => s = tab i fun a => tab g.Source.Objects fun y => befL f g a y) (by omega) (by omega) rfl ?_ ?_
    · rintro a s next a0 a1 rfl hn1
      dsimp only
      rw [if_pos a1]
      have x1 := hf.to_in a a0 a1
      have x2 := hf.from_in a a0 a1
      have x3 := ia a a0 (by omega)
      have x4 := ht.row _ x3.1 x3.2
      refine Ret.acc g.Source.Objects (fun j s => s = tab j fun y => befL f g a y) g0 (by omega) rfl ?_ ?_
      · rintro y s next y0 y1 rfl hn2
        dsimp only
        rw [if_pos y1]
        refine Ret.idx a0 (by omega) (Ret.idx x1.1 (by omega) (Ret.idx y0 (by omega) (Ret.call (l02Hom_eq ht _ _) (Ret.idx a0 (by omega) (Ret.idx x2.1 (by omega) (Ret.call (l02Hom_eq ht _ _) ?_))))))
        refine map_loop (l := atL f g (el f.Source.To a) y) (F := fun h => indexL (atL f g (el f.Source.From a) y) (cmp f.Target (el f.Arrows a) h)) (small _ _) ?_ ?_
        · intro i s next i0 i1 hs hn
          dsimp only
          rw [if_pos i1]
          have m1 := homL_mem.1 (el_mem i0 i1)
          refine Ret.idx a0 (by omega) (Ret.idx i0 i1 ?_)
          unfold M.spec_l02Then
          refine Ret.call (v := cmp f.Target (el f.Arrows a) (el (atL f g (el f.Source.To a) y) i)) ?_ (Ret.call (l01Index_eq (small (el f.Source.From a) y) _) (Ret.chk ?_ hn))
          · rw [idx_el x3.1 (by omega)]
            simp only [Option.bind_some]
            rw [idx_el m1.1 (by omega)]; rfl
          · unfold lim; simp only [List.length_cons, List.length_nil]; omega
        · intro next
          dsimp only
          refine Ret.neg (Int.lt_irrefl _) ?_
          refine Ret.chk ?_ (hn2 _ (tab_succ (fun y => befL f g a y) y0).symm)
          rw [tab_length]; unfold lim; omega
      · rintro s next rfl
        dsimp only
        rw [if_neg (by omega)]
        refine Ret.chk ?_ (hn1 _ (tab_succ (fun a => tab g.Source.Objects fun y => befL f g a y) a0).symm)
        rw [tab_length]; unfold lim; omega
    · rintro s next rfl
      dsimp only
      rw [if_neg (by omega)]
      refine Ret.acc (g.Source.From.length : Int) (fun i s => s = tab i fun b => tab f.Source.Objects fun x => behL f g b x) (by omega) (by omega) rfl ?_ ?_
      · rintro b s next b0 b1 rfl hn1
        dsimp only
        rw [if_pos b1]
        have x1 := hg.to_in b b0 b1
        have x2 := hg.from_in b b0 b1
        have x3 := ia' b b0 (by omega)
        refine Ret.acc f.Source.Objects (fun j s => s = tab j fun x => behL f g b x) f0 (by omega) rfl ?_ ?_
        · rintro x s next y0 y1 rfl hn2
          dsimp only
          rw [if_pos y1]
          refine Ret.idx y0 (by omega) (Ret.idx b0 (by omega) (Ret.idx x2.1 (by omega) (Ret.call (l02Hom_eq ht _ _) (Ret.idx b0 (by omega) (Ret.idx x1.1 (by omega) (Ret.call (l02Hom_eq ht _ _) ?_))))))
          refine map_loop (l := atL f g x (el g.Source.From b)) (F := fun h => indexL (atL f g x (el g.Source.To b)) (cmp f.Target h (el g.Arrows b))) (small _ _) ?_ ?_
          · intro i s next i0 i1 hs hn
            dsimp only
            rw [if_pos i1]
            have m1 := homL_mem.1 (el_mem i0 i1)
            have x4 := ht.row _ m1.1 m1.2.1
            refine Ret.idx i0 i1 (Ret.idx b0 (by omega) ?_)
            unfold M.spec_l02Then
            refine Ret.call (v := cmp f.Target (el (atL f g x (el g.Source.From b)) i) (el g.Arrows b)) ?_ (Ret.call (l01Index_eq (small x (el g.Source.To b)) _) (Ret.chk ?_ hn))
            · rw [idx_el m1.1 (by omega)]
              simp only [Option.bind_some]
              rw [idx_el x3.1 (by omega)]; rfl
            · unfold lim; simp only [List.length_cons, List.length_nil]; omega
          · intro next
            dsimp only
            refine Ret.neg (Int.lt_irrefl _) ?_
            refine Ret.chk ?_ (hn2 _ (tab_succ (fun x => behL f g b x) y0).symm)
            rw [tab_length]; unfold lim; omega
        · rintro s next rfl
          dsimp only
          rw [if_neg (by omega)]
          refine Ret.chk ?_ (hn1 _ (tab_succ (fun b => tab f.Source.Objects fun x => behL f g b x) b0).symm)
          rw [tab_length]; unfold lim; omega
      · rintro s next rfl
        dsimp only
        rw [if_neg (by omega)]
        exact Ret.some rfl

theorem natural_1_eq {f g : XFunctor} (h : Two f g) {x y : Int} (x0 : 0 ≤ x) (x1 : x < f.Source.Objects) (y0 : 0 ≤ y) (y1 : y < g.Source.Objects) : M.impl_natural_1 x y f.Target f g = some (atL f g x y) := by
  have lo := h.lo
  have lo' := h.lo'
  unfold M.impl_natural_1
  rw [idx_el x0 (by omega), idx_el y0 (by omega)]
  simp only [Option.bind_some]
  rw [hom_eq h.st]; rfl

theorem natural_3_eq {f g : XFunctor} (h : Two f g) {a y : Int} (a0 : 0 ≤ a) (a1 : a < (f.Source.From.length : Int)) (y0 : 0 ≤ y) (y1 : y < g.Source.Objects) :
    M.impl_natural_3 a y (fun x0 x1 => M.impl_natural_1 x0 x1 f.Target f g) f f.Target = some (befL f g a y) := by
  apply Ret.eq
  have ht := h.st
  have ft := h.sf.lto
  have la := h.la
  have tc := ht.lco
  have x1 := h.sf.to_in a a0 a1
  have x2 := h.sf.from_in a a0 a1
  have x3 := h.ia a a0 (by omega)
  have x4 := ht.row _ x3.1 x3.2
  have small : ∀ x y, Small (atL f g x y) := fun x y => by have h40 : ((atL f g x y).length : Int) ≤ 40 := homL_len ht (el f.Objects x) (el g.Objects y); unfold Small; omega
  unfold M.impl_natural_3
  refine Ret.idx a0 a1 (Ret.call (natural_1_eq h x2.1 x2.2 y0 y1) (Ret.idx a0 (by omega) (Ret.call (natural_1_eq h x1.1 x1.2 y0 y1) ?_)))
  refine map_loop (l := atL f g (el f.Source.To a) y) (F := fun h => indexL (atL f g (el f.Source.From a) y) (cmp f.Target (el f.Arrows a) h)) (small _ _) ?_ ?_
  · intro i s next i0 i1 hs hn
    dsimp only
    simp only [decide_eq_true_eq]
    rw [if_pos i1]
    have m1 : 0 ≤ el (atL f g (el f.Source.To a) y) i ∧ el (atL f g (el f.Source.To a) y) i < (f.Target.From.length : Int) ∧ _ := homL_mem.1 (el_mem i0 i1)
    refine Ret.idx i0 i1 (Ret.idx a0 (by omega) (Ret.call (then_eq x3.1 (by omega) m1.1 (by omega)) (Ret.call (index_eq (small (el f.Source.From a) y) _) (Ret.chk ?_ hn))))
    unfold lim; simp only [List.length_cons, List.length_nil]; omega
  · intro next
    dsimp only
    simp only [decide_eq_true_eq]
    exact Ret.neg (Int.lt_irrefl _) (Ret.some rfl)

theorem natural_4_eq {f g : XFunctor} (h : Two f g) {b x : Int} (b0 : 0 ≤ b) (b1 : b < (g.Source.From.length : Int)) (y0 : 0 ≤ x) (y1 : x < f.Source.Objects) :
    M.impl_natural_4 b x (fun x0 x1 => M.impl_natural_1 x0 x1 f.Target f g) g f.Target = some (behL f g b x) := by
  apply Ret.eq
  have ht := h.st
  have gt := h.sg.lto
  have la := h.la'
  have tc := ht.lco
  have x1 := h.sg.to_in b b0 b1
  have x2 := h.sg.from_in b b0 b1
  have x3 := h.ia' b b0 (by omega)
  have small : ∀ x y, Small (atL f g x y) := fun x y => by have h40 : ((atL f g x y).length : Int) ≤ 40 := homL_len ht (el f.Objects x) (el g.Objects y); unfold Small; omega
  unfold M.impl_natural_4
  refine Ret.idx b0 (by omega) (Ret.call (natural_1_eq h y0 y1 x1.1 x1.2) (Ret.idx b0 b1 (Ret.call (natural_1_eq h y0 y1 x2.1 x2.2) ?_)))
  refine map_loop (l := atL f g x (el g.Source.From b)) (F := fun h => indexL (atL f g x (el g.Source.To b)) (cmp f.Target h (el g.Arrows b))) (small _ _) ?_ ?_
  · intro i s next i0 i1 hs hn
    dsimp only
    simp only [decide_eq_true_eq]
    rw [if_pos i1]
    have m1 : 0 ≤ el (atL f g x (el g.Source.From b)) i ∧ el (atL f g x (el g.Source.From b)) i < (f.Target.From.length : Int) ∧ _ := homL_mem.1 (el_mem i0 i1)
    have x4 := ht.row _ m1.1 m1.2.1
    refine Ret.idx i0 i1 (Ret.idx b0 (by omega) (Ret.call (then_eq m1.1 (by omega) x3.1 (by omega)) (Ret.call (index_eq (small x (el g.Source.To b)) _) (Ret.chk ?_ hn))))
    unfold lim; simp only [List.length_cons, List.length_nil]; omega
  · intro next
    dsimp only
    simp only [decide_eq_true_eq]
    exact Ret.neg (Int.lt_irrefl _) (Ret.some rfl)

theorem profunctor_eq {c d : XCategory} (sc : SmallC c) (sd : SmallC d) (hc : Shp c) (hd : Shp d) {u : Int → Int → Option Int} {v w : Int → Int → Option (List Int)} {U : Int → Int → Int} {V W : Int → Int → List Int}
    (hu : ∀ x y, 0 ≤ x → x < c.Objects → 0 ≤ y → y < d.Objects → u x y = some (U x y) ∧ U x y ≤ 64) (hv : ∀ a y, 0 ≤ a → a < (c.From.length : Int) → 0 ≤ y → y < d.Objects → v a y = some (V a y))
    (hw : ∀ b x, 0 ≤ b → b < (d.From.length : Int) → 0 ≤ x → x < c.Objects → w b x = some (W b x)) :
    M.impl_profunctor c d u v w = some (⟨c, d, tab c.Objects fun x => tab d.Objects fun y => U x y, tab (c.From.length : Int) fun a => tab d.Objects fun y => V a y, tab (d.From.length : Int) fun b => tab c.Objects fun x => W b x⟩, true) := by
  apply Ret.eq
  have c0 := hc.n0
  have c8 := hc.n8
  have d0 := hd.n0
  have d8 := hd.n8
  have cm := hc.m40
  have dm := hd.m40
  unfold M.impl_profunctor
  refine Ret.call (copy_eq sc) (Ret.call (copy_eq sd) ?_)
  refine Ret.acc c.Objects (fun i s => s = tab i fun x => tab d.Objects fun y => U x y) c0 (by omega) rfl ?_ ?_
  · rintro x s next x0 x1 rfl hn1
    dsimp only
    simp only [decide_eq_true_eq]
    rw [if_pos x1]
    refine Ret.chk ⟨d0, by unfold lim; omega⟩ ?_
    refine Ret.acc d.Objects (fun j s => s = tab j fun y => U x y) d0 (by omega) rfl ?_ ?_
    · rintro y s next y0 y1 rfl hn2
      dsimp only
      rw [if_pos y1]
      have hl : ((tab y fun y => U x y).length : Int) = y := by rw [tab_length]; omega
      obtain ⟨e1, e2⟩ := hu x y x0 x1 y0 y1
      have hs := (tab_succ (fun y => U x y) y0).symm
      refine Ret.chk (by omega) (Ret.call e1 (Ret.chk (by unfold lim; simp only [List.length_cons, List.length_nil]; omega) ?_))
      rw [show ((tab y fun y => U x y) ++ ([U x y] : List Int)) = tab (y + 1) fun y => U x y from hs]
      refine Ret.idx y0 (by rw [tab_length]; omega) ?_
      rw [el_tab y0 (by omega), if_neg (by omega)]
      exact hn2 _ rfl
    · rintro s next rfl
      dsimp only
      rw [if_neg (by omega)]
      refine Ret.chk ?_ (hn1 _ (tab_succ (fun x => tab d.Objects fun y => U x y) x0).symm)
      rw [tab_length]; unfold lim; omega
  · rintro s next rfl
    dsimp only
    simp only [decide_eq_true_eq]
    rw [if_neg (by omega)]
    refine Ret.acc (c.From.length : Int) (fun i s => s = tab i fun a => tab d.Objects fun y => V a y) (by omega) (by omega) rfl ?_ ?_
    · rintro a s next a0 a1 rfl hn1
      dsimp only
      rw [if_pos a1]
      refine Ret.acc d.Objects (fun j s => s = tab j fun y => V a y) d0 (by omega) rfl ?_ ?_
      · rintro y s next y0 y1 rfl hn2
        dsimp only
        rw [if_pos y1]
        refine Ret.call (hv a y a0 a1 y0 y1) (Ret.chk ?_ (hn2 _ (tab_succ (fun y => V a y) y0).symm))
        rw [tab_length]; unfold lim; omega
      · rintro s next rfl
        dsimp only
        rw [if_neg (by omega)]
        refine Ret.chk ?_ (hn1 _ (tab_succ (fun a => tab d.Objects fun y => V a y) a0).symm)
        rw [tab_length]; unfold lim; omega
    · rintro s next rfl
      dsimp only
      rw [if_neg (by omega)]
      refine Ret.acc (d.From.length : Int) (fun i s => s = tab i fun b => tab c.Objects fun x => W b x) (by omega) (by omega) rfl ?_ ?_
      · rintro b s next b0 b1 rfl hn1
        dsimp only
        rw [if_pos b1]
        refine Ret.acc c.Objects (fun j s => s = tab j fun x => W b x) c0 (by omega) rfl ?_ ?_
        · rintro x s next y0 y1 rfl hn2
          dsimp only
          rw [if_pos y1]
          refine Ret.call (hw b x b0 b1 y0 y1) (Ret.chk ?_ (hn2 _ (tab_succ (fun x => W b x) y0).symm))
          rw [tab_length]; unfold lim; omega
        · rintro s next rfl
          dsimp only
          rw [if_neg (by omega)]
          refine Ret.chk ?_ (hn1 _ (tab_succ (fun b => tab c.Objects fun x => W b x) b0).symm)
          rw [tab_length]; unfold lim; omega
      · rintro s next rfl
        dsimp only
        rw [if_neg (by omega)]
        exact Ret.some rfl

theorem natural_eq {f g : XFunctor} (ss : SmallC f.Source) (sg : SmallC g.Source) (h : Two f g) : M.impl_natural f g = some (natP f g) := by
  unfold M.impl_natural
  rw [profunctor_eq (U := fun x y => ((atL f g x y).length : Int)) (V := befL f g) (W := behL f g) ss sg h.sf h.sg
    (fun x y x0 x1 y0 y1 => ⟨by
      show (M.impl_natural_1 x y f.Target f g).bind _ = _
      rw [natural_1_eq h x0 x1 y0 y1]; rfl, by have h40 : ((atL f g x y).length : Int) ≤ 40 := homL_len h.st _ _; omega⟩)
    (fun a y a0 a1 y0 y1 => natural_3_eq h a0 a1 y0 y1) (fun b x b0 b1 x0 x1 => natural_4_eq h b0 b1 x0 x1)]
  rfl
end Go.Gx
