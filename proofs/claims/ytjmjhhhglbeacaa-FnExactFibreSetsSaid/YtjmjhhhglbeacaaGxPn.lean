/- Plain laws: hom sets, profunctors of functors. -/
import Derived.Test.YtjmjhhhglbeacaaGxPu
import Derived.Test.YtjmjhhhglbeacaaGxL12M
namespace Go.Gx
open Classical
set_option maxHeartbeats 2000000

noncomputable def indexL (l : List Int) (v : Int) : Int := (M.spec_l01Index l v).getD (-1)
theorem l01Index_eq {l : List Int} (h : Small l) (v : Int) : M.spec_l01Index l v = some (indexL l v) := by
  have h1 : Ret (M.spec_l01Index l v) fun _ => True := by
    unfold M.spec_l01Index
    simp only [decide_eq_true_eq]
    refine Ret.all (l.length : Int) (fun _ => True) (by omega) (by omega) ?_ ?_
    · intro i next hi0 hi1 hp hn1
      rw [if_pos hi1]
      exact Ret.idx hi0 hi1 (Ret.ite (fun _ => Ret.some trivial) (fun _ => hn1 trivial))
    · intro next hp
      rw [if_neg (by omega)]
      exact Ret.some trivial
  obtain ⟨r, e, _⟩ := h1
  unfold indexL
  rw [e]; rfl
theorem index_eq {l : List Int} (h : Small l) (v : Int) : M.impl_index_int64 l v = some (indexL l v) := by
  have e : M.slices_Index_int64_int64 l v = M.spec_l01Index l v := by
    unfold M.slices_Index_int64_int64 M.spec_l01Index
    have : ∀ y : Int, (v == y) = (y == v) := fun y => by rw [Bool.eq_iff_iff, beq_iff_eq, beq_iff_eq]; exact eq_comm
    simp only [this]
  unfold M.impl_index_int64
  rw [e, l01Index_eq h v]; rfl

/-! ### the profunctor of two functors with one target -/
structure Two (f g : XFunctor) : Prop where
  sf : Shp f.Source
  sg : Shp g.Source
  st : Shp f.Target
  lo : (f.Objects.length : Int) = f.Source.Objects
  la : (f.Arrows.length : Int) = (f.Source.From.length : Int)
  lo' : (g.Objects.length : Int) = g.Source.Objects
  la' : (g.Arrows.length : Int) = (g.Source.From.length : Int)
  ia : In (f.Target.From.length : Int) f.Arrows
  ia' : In (f.Target.From.length : Int) g.Arrows

/-- A loop that pushes F of each entry. -/
theorem map_loop {ρ : Type} {l : List Int} (h : Small l) {F : Int → Int} {step : List Int × Int → (List Int × Int → Option ρ) → Option ρ} {Q : ρ → Prop}
    (hgo : ∀ (i : Int) (s : List Int) next, 0 ≤ i → i < (l.length : Int) → s.length ≤ 1048576 → Ret (next (s ++ [F (el l i)], IntKind.i64.wrap (i + 1))) Q → Ret (step (s, i) next) Q)
    (hend : ∀ next, Ret (step (l.map F, (l.length : Int)) next) Q) : Ret (iter step fuel (([] : List Int), 0)) Q := by
  refine Ret.acc (l.length : Int) (fun i s => s = (l.take i.toNat).map F) (by omega) (by omega) (by simp) ?_ ?_
  · rintro i s next i0 i1 rfl hn
    refine hgo i _ next i0 i1 ?_ (hn _ ?_)
    · rw [List.length_map, List.length_take]; omega
    · rw [take_succ_el i0 i1, List.map_append]; rfl
  · rintro s next rfl
    have := hend next
    simpa using this

end Go.Gx
