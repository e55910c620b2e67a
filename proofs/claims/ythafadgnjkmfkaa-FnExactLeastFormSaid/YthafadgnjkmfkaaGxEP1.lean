import Derived.Test.YthafadgnjkmfkaaGxEP0
namespace Go.Gx
open Classical
set_option maxHeartbeats 1000000
variable {c : XCategory}
noncomputable def gL (c : XCategory) (ps : List (Int × Int)) : List (List Int) := ps.flatMap fun p => if p.1 = p.2 then [[el c.Identity p.1], restL c p.1 p.2] else [restL c p.1 p.2]
def GP : List (List Int) → List Int → Prop
  | [], t => t = []
  | g :: gs, t => ∃ b t', t = b ++ t' ∧ b.Perm g ∧ GP gs t'
theorem gL_cons (p : Int × Int) (ps : List (Int × Int)) : gL c (p :: ps) = (if p.1 = p.2 then [[el c.Identity p.1], restL c p.1 p.2] else [restL c p.1 p.2]) ++ gL c ps := rfl
theorem gL_snoc (ps : List (Int × Int)) (p : Int × Int) : gL c (ps ++ [p]) = gL c ps ++ (if p.1 = p.2 then [[el c.Identity p.1], restL c p.1 p.2] else [restL c p.1 p.2]) := by
  unfold gL; rw [List.flatMap_append]; simp
theorem gL_len : ∀ ps : List (Int × Int), (gL c ps).length ≤ 2 * ps.length
  | [] => by simp [gL]
  | p :: ps => by
    have := gL_len ps
    rw [gL_cons, List.length_append, List.length_cons]
    split <;> simp <;> omega
theorem GP_gL (h : Shp c) : ∀ (ps : List (Int × Int)) (t : List Int), GP (gL c ps) t ↔ CandP c ps t
  | [], t => Iff.rfl
  | p :: ps, t => by
    rw [gL_cons]
    by_cases e : p.1 = p.2
    · rw [if_pos e]
      show (∃ b t', t = b ++ t' ∧ b.Perm [el c.Identity p.1] ∧ ∃ b2 t2, t' = b2 ++ t2 ∧ b2.Perm (restL c p.1 p.2) ∧ GP (gL c ps) t2) ↔ ∃ b t', t = b ++ t' ∧ Good c p b ∧ CandP c ps t'
      simp only [Good, if_pos e]
      constructor
      · rintro ⟨b, _, rfl, hb, b2, t2, rfl, hb2, ht⟩
        obtain rfl := List.perm_singleton.1 hb
        exact ⟨el c.Identity p.1 :: b2, t2, by simp, ⟨b2, rfl, hb2⟩, (GP_gL h ps t2).1 ht⟩
      · rintro ⟨_, t2, rfl, ⟨b2, rfl, hb2⟩, ht⟩
        exact ⟨[el c.Identity p.1], b2 ++ t2, by simp, List.Perm.refl _, b2, t2, rfl, hb2, (GP_gL h ps t2).2 ht⟩
    · rw [if_neg e]
      show (∃ b t', t = b ++ t' ∧ b.Perm (restL c p.1 p.2) ∧ GP (gL c ps) t') ↔ ∃ b t', t = b ++ t' ∧ Good c p b ∧ CandP c ps t'
      simp only [Good, if_neg e, restL_ne h e]
      constructor
      · rintro ⟨b, t2, rfl, hb, ht⟩
        exact ⟨b, t2, rfl, hb, (GP_gL h ps t2).1 ht⟩
      · rintro ⟨b, t2, rfl, hb, ht⟩
        exact ⟨b, t2, rfl, hb, (GP_gL h ps t2).2 ht⟩
theorem forms_r (h : Shp c) {o : List Int} (ho : Ord c o) {b : Option XCategory} {Q : Option XCategory → Prop}
    (hfin : Ret ((M.impl_backwards o).bind fun v28 => (M.iC_forms_1_nil (gL c (pairs o)) c v28 0 b).bind fun v29 => some v29) Q) : Ret (M.iC_forms c o b) Q := by
  have n0 := h.n0
  have n8 := h.n8
  have ol := ho.len n0
  unfold M.iC_forms
  refine Ret.acc (o.length : Int) (fun i s => s = gL c (PS o i 0)) (by omega) (by omega) (by rw [PS_zero]; rfl) ?_ ?_
  · rintro i s next i0 i1 rfl hn
    dsimp only
    rw [if_pos (decide_eq_true i1)]
    refine Ret.idx i0 i1 ?_
    refine Ret.acc (o.length : Int) (fun j s => s = gL c (PS o i j)) (by omega) (by omega) rfl ?_ ?_
    · rintro j s next2 j0 j1 rfl hn2
      dsimp only
      rw [if_pos (decide_eq_true j1)]
      obtain ⟨post, hpost⟩ := PS_pre i0 i1 j0 j1
      have mi := ho.mem.1 (el_mem i0 i1)
      have hlenP : (PS o i j).length ≤ 64 := by
        have := congrArg List.length hpost
        rw [pairs_len, List.length_append, List.length_cons] at this
        have : o.length * o.length ≤ 8 * 8 := Nat.mul_le_mul (by omega) (by omega)
        omega
      have hg := gL_len (c := c) (PS o i j)
      have hm := homL_len h (el o i) (el o j)
      have lid := h.lid
      refine Ret.idx j0 j1 (Ret.call (hom_eq h _ _) ?_)
      refine Ret.acc ((homL c (el o i) (el o j)).length : Int) (fun k s => s = ((homL c (el o i) (el o j)).take k.toNat).filter fun f => !decide (IdA c f)) (by omega) (by omega) (by simp) ?_ ?_
      · rintro k s next3 k0 k1 rfl hn3
        dsimp only
        rw [if_pos (decide_eq_true k1)]
        have hf := homL_mem.1 (el_mem k0 k1)
        have lf : (((homL c (el o i) (el o j)).take k.toNat).filter fun f => !decide (IdA c f)).length ≤ 40 := by
          have := List.length_filter_le (fun f => !decide (IdA c f)) ((homL c (el o i) (el o j)).take k.toNat)
          rw [List.length_take] at this; omega
        refine Ret.idx k0 k1 (Ret.call (isId_eq h hf.1 hf.2.1) (Ret.ite (fun hb => hn3 _ ?_) (fun hb => Ret.chk ?_ (hn3 _ ?_))))
        · rw [take_succ_el k0 k1, List.filter_append, List.filter_cons, if_neg (by rw [hb]; simp), List.filter_nil, List.append_nil]
        · unfold lim; simp only [List.length_cons, List.length_nil]; omega
        · rw [take_succ_el k0 k1, List.filter_append, List.filter_cons, if_pos (by simpa using hb), List.filter_nil]
      · rintro s next3 rfl
        dsimp only
        rw [if_neg (by simp)]
        have e1 : ((homL c (el o i) (el o j)).take ((homL c (el o i) (el o j)).length : Int).toNat).filter (fun f => !decide (IdA c f)) = restL c (el o i) (el o j) := by unfold restL; simp
        rw [e1]
        refine Ret.ite (fun he => ?_) (fun he => ?_)
        · have he : el o i = el o j := by simpa using he
          refine Ret.idx mi.1 (by omega) (Ret.chk (by unfold lim; omega) (Ret.chk ?_ (hn2 _ ?_)))
          · rw [List.length_append]; unfold lim; simp only [List.length_cons, List.length_nil]; omega
          · rw [PS_succ j0 j1, gL_snoc, if_pos he, List.append_assoc]; rfl
        · have he : ¬ el o i = el o j := by simpa using he
          refine Ret.chk (by unfold lim; omega) (hn2 _ ?_)
          rw [PS_succ j0 j1, gL_snoc, if_neg he]
    · rintro s next2 rfl
      dsimp only
      rw [if_neg (by simp)]
      exact hn _ (by rw [PS_row i0 i1])
  · rintro s next rfl
    dsimp only
    rw [if_neg (by simp), PS_all]
    exact hfin
def prodV : List (List Int) → List Int → List (List Int)
  | [], ar => [ar]
  | g :: gs, ar => (visN g.length g 0).flatMap fun l' => prodV gs (ar ++ l')
theorem mem_prodV : ∀ (gs : List (List Int)) (ar l : List Int), l ∈ prodV gs ar ↔ ∃ t, l = ar ++ t ∧ GP gs t
  | [], ar, l => by simp [prodV, GP]
  | g :: gs, ar, l => by
    unfold prodV
    rw [List.mem_flatMap]
    have hm : ∀ l', l' ∈ visN g.length g 0 ↔ l'.Perm g := fun l' => by
      have := mem_visN g.length [] g rfl l'
      rw [List.nil_append] at this
      rw [show (0 : Nat) = ([] : List Int).length from rfl, this]
      simp
    constructor
    · rintro ⟨b, hb, h⟩
      obtain ⟨t, rfl, ht⟩ := (mem_prodV gs _ l).1 h
      exact ⟨b ++ t, by simp, b, t, rfl, (hm b).1 hb, ht⟩
    · rintro ⟨_, rfl, b, t, rfl, hb, ht⟩
      exact ⟨b, (hm b).2 hb, (mem_prodV gs _ _).2 ⟨t, by simp, ht⟩⟩
def leafM (c : XCategory) (o l : List Int) (b : Option XCategory) : Option (Option XCategory) :=
  (M.impl_backwards l).bind fun v2 => (M.iC_renumber c o v2).bind fun v3 => (M.iC_leastForm_1 v3 b).bind fun v4 => some v4
theorem foldl_flat {α β γ : Type} (f : β → γ → β) (g : α → List γ) : ∀ (L : List α) (b : β), (L.flatMap g).foldl f b = L.foldl (fun b x => (g x).foldl f b) b
  | [], _ => rfl
  | x :: L, b => by rw [List.flatMap_cons, List.foldl_append, foldl_flat f g L]; rfl
theorem own_eq_forms {xg : List (List Int)} {xp : List Int} {P : Option XCategory → Prop} {U : List Int → Option XCategory → Option XCategory} (hg : xg.length ≤ 1000) (hgl : ∀ g ∈ xg, g.length ≤ 64) :
    ∀ (gs : List (List Int)) (k i : Nat) (ar : List Int), xg.drop i = gs → i ≤ xg.length → gs.length < k → ar.length ≤ 64 * i →
      (∀ t, GP gs t → ∀ b, P b → leafM c xp (ar ++ t) b = some (U (ar ++ t) b) ∧ P (U (ar ++ t) b)) → ∀ b, P b →
      M.iC_forms_1_own_n k xg c xp (i : Int) ar b = some ((prodV gs ar).foldl (fun b l => U l b) b)
  | _, 0, _, _, _, _, h, _, _, _, _ => by omega
  | [], k + 1, i, ar, hi, hil, _, _, hU, b, hb => by
    have : xg.length ≤ i := List.drop_eq_nil_iff.1 hi
    unfold M.iC_forms_1_own_n
    rw [if_pos (by simp; omega)]
    have := (hU [] rfl b hb).1
    rw [List.append_nil] at this
    exact this
  | g :: gs, k + 1, i, ar, hi, hil, hk, har, hU, b, hb => by
    have hil : i < xg.length := by
      rcases Nat.lt_or_ge i xg.length with h | h
      · exact h
      · rw [List.drop_eq_nil_of_le h] at hi; cases hi
    have hd : xg.drop (i + 1) = gs := by
      have := drop_elL (l := xg) (i := (i : Int)) (by omega) (by omega)
      rw [show ((i : Int)).toNat = i by omega, show ((i : Int) + 1).toNat = i + 1 by omega, hi] at this
      exact (List.cons.inj this).2.symm
    have hge : el xg (i : Int) = g := by
      have := drop_elL (l := xg) (i := (i : Int)) (by omega) (by omega)
      rw [show ((i : Int)).toNat = i by omega, hi] at this
      exact (List.cons.inj this).1.symm
    have gl : g.length ≤ 64 := hgl g (by rw [← hge]; exact el_mem (by omega) (by omega))
    unfold M.iC_forms_1_own_n
    rw [if_neg (by simp; omega), idx_el (by omega) (by omega), Option.bind_some, hge, clone_eq (by unfold Small; omega), Option.bind_some]
    have key := perm_B (P := P) (xv := fun xl xb => M.iC_forms_1_1 (fun xi xa xb => M.iC_forms_1_own_n k xg c xp xi xa xb) (i : Int) ar xl xb)
      (f := fun l' b => (prodV gs (ar ++ l')).foldl (fun b l => U l b) b) g.length fuel g 0 (by omega) (by unfold fuel; omega) gl (fun l' hl' b hb => by
        have ll := hl'.length_eq
        refine ⟨?_, ?_⟩
        · show M.iC_forms_1_1 _ _ _ _ _ = _
          unfold M.iC_forms_1_1
          rw [clone_eq (by unfold Small; omega), Option.bind_some]
          apply Ret.eq
          refine Ret.chk (by unfold lim; omega) ?_
          rw [show IntKind.i64.wrap ((i : Int) + 1) = ((i + 1 : Nat) : Int) by rw [wrap_in (by omega) (by omega)]; omega]
          refine Ret.call (own_eq_forms hg hgl gs k (i + 1) (ar ++ l') hd (by omega) (by simpa using hk) (by rw [List.length_append]; omega) (fun t ht b hb => ?_) b hb) (Ret.some rfl)
          have := hU (l' ++ t) ⟨l', t, rfl, hl', ht⟩ b hb
          rw [← List.append_assoc] at this
          exact this
        · refine foldP (fun l hl b hb => ?_) hb
          obtain ⟨t, rfl, ht⟩ := (mem_prodV gs _ l).1 hl
          have := hU (l' ++ t) ⟨l', t, rfl, hl', ht⟩ b hb
          rw [← List.append_assoc] at this
          exact this.2) b hb
    unfold M.impl_permutations_B M.impl_permutations_1_B
    rw [show (0 : Int) = ((0 : Nat) : Int) from rfl, key]
    simp only [Option.bind_some]
    show some _ = some (((visN g.length g 0).flatMap fun l' => prodV gs (ar ++ l')).foldl (fun b l => U l b) b)
    rw [foldl_flat]
theorem nil_eq_forms {xg : List (List Int)} {xp : List Int} {P : Option XCategory → Prop} {U : List Int → Option XCategory → Option XCategory} (hg : xg.length ≤ 1000) (hgl : ∀ g ∈ xg, g.length ≤ 64)
    (hU : ∀ t, GP xg t → ∀ b, P b → leafM c xp t b = some (U t b) ∧ P (U t b)) {b : Option XCategory} (hb : P b) :
    M.iC_forms_1_nil xg c xp 0 b = some ((prodV xg []).foldl (fun b l => U l b) b) := by
  unfold M.iC_forms_1_nil
  cases hx : xg with
  | nil =>
    rw [if_pos (by simp)]
    exact (hU [] (by rw [hx]; rfl) b hb).1
  | cons g gs =>
    rw [← hx]
    have hx1 : xg.length = gs.length + 1 := by rw [hx]; rfl
    have hge : el xg (0 : Int) = g := by rw [hx]; rfl
    have gl : g.length ≤ 64 := hgl g (by rw [hx]; exact List.mem_cons_self ..)
    rw [if_neg (by simp; omega), idx_el (by omega) (by omega), Option.bind_some, hge, clone_eq (by unfold Small; omega), Option.bind_some]
    have hd : xg.drop 1 = gs := by rw [hx]; rfl
    have key := perm_B (P := P) (xv := fun xl xb => M.iC_forms_1_1 (fun xi xa xb => M.iC_forms_1_own xg c xp xi xa xb) 0 ([] : List Int) xl xb)
      (f := fun l' b => (prodV gs ([] ++ l')).foldl (fun b l => U l b) b) g.length fuel g 0 (by omega) (by unfold fuel; omega) gl (fun l' hl' b hb => by
        have ll := hl'.length_eq
        refine ⟨?_, ?_⟩
        · show M.iC_forms_1_1 _ _ _ _ _ = _
          unfold M.iC_forms_1_1
          rw [clone_eq (by unfold Small; simp), Option.bind_some]
          apply Ret.eq
          refine Ret.chk (by unfold lim; simp; omega) ?_
          rw [show IntKind.i64.wrap ((0 : Int) + 1) = ((1 : Nat) : Int) from rfl]
          refine Ret.call (own_eq_forms hg hgl gs fuel 1 ([] ++ l') hd (by omega) (by unfold fuel; omega) (by simp; omega) (fun t ht b hb => ?_) b hb) (Ret.some rfl)
          exact hU (l' ++ t) (by rw [hx]; exact ⟨l', t, rfl, hl', ht⟩) b hb
        · refine foldP (fun l hl b hb => ?_) hb
          obtain ⟨t, rfl, ht⟩ := (mem_prodV gs _ l).1 hl
          exact (hU (l' ++ t) (by rw [hx]; exact ⟨l', t, rfl, hl', ht⟩) b hb).2) b hb
    unfold M.impl_permutations_B M.impl_permutations_1_B
    rw [show (0 : Int) = ((0 : Nat) : Int) from rfl] at key ⊢
    rw [key]
    simp only [Option.bind_some]
    rw [hx]
    show some _ = some (((visN g.length g 0).flatMap fun l' => prodV gs ([] ++ l')).foldl (fun b l => U l b) b)
    rw [foldl_flat]
end Go.Gx
namespace Go.Gx
open Classical
set_option maxHeartbeats 1000000
variable {c : XCategory}
structure Bj (l : List Int) : Prop where
  inr : ∀ i, 0 ≤ i → i < (l.length : Int) → 0 ≤ el l i ∧ el l i < (l.length : Int)
  sur : ∀ v, 0 ≤ v → v < (l.length : Int) → ∃ i, 0 ≤ i ∧ i < (l.length : Int) ∧ el l i = v
  inj : ∀ i j, 0 ≤ i → i < (l.length : Int) → 0 ≤ j → j < (l.length : Int) → el l i = el l j → i = j
theorem bj_of {n : Int} (n0 : 0 ≤ n) {l : List Int} (h : l.Perm (tab n fun j => j)) : (l.length : Int) = n ∧ Bj l := by
  have hl : (l.length : Int) = n := by rw [h.length_eq, tab_length]; omega
  have hm : ∀ x, x ∈ l ↔ 0 ≤ x ∧ x < n := fun x => by
    rw [h.mem_iff]
    unfold tab
    rw [List.mem_map]
    constructor
    · rintro ⟨k, hk, rfl⟩
      have := List.mem_range.1 hk
      dsimp only; omega
    · rintro ⟨h0, h1⟩
      exact ⟨x.toNat, List.mem_range.2 (by omega), by dsimp only; omega⟩
  have hn : l.Nodup := h.nodup_iff.2 (by
    unfold tab
    rw [List.nodup_iff_pairwise_ne, List.pairwise_map]
    exact List.Pairwise.imp (fun h e => absurd e (by dsimp only; omega)) (List.pairwise_lt_range))
  refine ⟨hl, fun i i0 i1 => ?_, fun v v0 v1 => mem_el ((hm v).2 ⟨v0, by omega⟩), fun i j i0 i1 j0 j1 e => el_inj hn i0 i1 j0 j1 e⟩
  have := (hm _).1 (el_mem i0 i1)
  omega
noncomputable def posI (l : List Int) (v : Int) : Int := if h : ∃ i, 0 ≤ i ∧ i < (l.length : Int) ∧ el l i = v then Classical.choose h else 0
theorem posI_spec {l : List Int} (h : Bj l) {v : Int} (v0 : 0 ≤ v) (v1 : v < (l.length : Int)) : 0 ≤ posI l v ∧ posI l v < (l.length : Int) ∧ el l (posI l v) = v := by
  unfold posI
  rw [dif_pos (h.sur v v0 v1)]
  exact Classical.choose_spec (h.sur v v0 v1)
theorem posI_el {l : List Int} (h : Bj l) {i : Int} (i0 : 0 ≤ i) (i1 : i < (l.length : Int)) : posI l (el l i) = i := by
  have a := h.inr i i0 i1
  have b := posI_spec h a.1 a.2
  exact h.inj _ _ b.1 b.2.1 i0 i1 b.2.2
noncomputable def bkL (l : List Int) : List Int := tab (l.length : Int) (posI l)
theorem bkL_len (l : List Int) : ((bkL l).length : Int) = (l.length : Int) := by unfold bkL; rw [tab_length]; omega
theorem el_bkL {l : List Int} {v : Int} (v0 : 0 ≤ v) (v1 : v < (l.length : Int)) : el (bkL l) v = posI l v := el_tab v0 v1
theorem bkL_bj {l : List Int} (h : Bj l) : Bj (bkL l) := by
  have hl := bkL_len l
  refine ⟨fun i i0 i1 => ?_, fun v v0 v1 => ?_, fun i j i0 i1 j0 j1 e => ?_⟩
  · rw [el_bkL i0 (by omega)]
    have := posI_spec h i0 (by omega); omega
  · have a := h.inr v v0 (by omega)
    exact ⟨el l v, a.1, by omega, by rw [el_bkL a.1 a.2, posI_el h v0 (by omega)]⟩
  · rw [el_bkL i0 (by omega), el_bkL j0 (by omega)] at e
    have a := posI_spec h i0 (by omega)
    have b := posI_spec h j0 (by omega)
    rw [← a.2.2, ← b.2.2, e]
theorem bkL_bkL {l : List Int} (h : Bj l) : bkL (bkL l) = l := by
  have hl := bkL_len l
  have hb := bkL_bj h
  conv => rhs; rw [← tab_el l]
  unfold bkL
  rw [show ((tab (l.length : Int) (posI l)).length : Int) = (l.length : Int) from hl]
  apply tab_congr
  intro v v0 v1
  have a := h.inr v v0 v1
  have b : posI (bkL l) (el (bkL l) (el l v)) = el l v := posI_el hb a.1 (by omega)
  rw [el_bkL a.1 a.2, posI_el h v0 v1] at b
  exact b
theorem back_eq {l : List Int} (h : Bj l) (hs : l.length ≤ 1000) : M.impl_backwards l = some (bkL l) := by
  apply Ret.eq
  unfold M.impl_backwards
  refine Ret.chk ⟨by omega, by unfold lim; omega⟩ ?_
  refine Ret.acc (l.length : Int) (fun i s => s = tab (l.length : Int) fun v => if posI l v < i then posI l v else 0) (by omega) (by omega) ?_ ?_ ?_
  · rw [rep_tab]; apply tab_congr; intro v v0 v1
    have := posI_spec h v0 v1
    rw [if_neg (by omega)]
  · rintro i s next i0 i1 rfl hn
    dsimp only
    rw [if_pos (decide_eq_true i1)]
    have a := h.inr i i0 i1
    refine Ret.idx i0 i1 (Ret.idx a.1 (by rw [tab_length]; omega) (hn _ ?_))
    rw [set_tab a.1]
    apply tab_congr
    intro v v0 v1
    have b := posI_spec h v0 v1
    by_cases e : v = el l i
    · subst e
      rw [if_pos rfl, posI_el h i0 i1, if_pos (by omega)]
    · have : posI l v ≠ i := fun he => e (by rw [← he]; exact b.2.2.symm)
      rw [if_neg e]
      by_cases h1 : posI l v < i
      · rw [if_pos h1, if_pos (by omega)]
      · rw [if_neg h1, if_neg (by omega)]
  · rintro s next rfl
    dsimp only
    rw [if_neg (by simp)]
    refine Ret.some ?_
    apply tab_congr
    intro v v0 v1
    rw [if_pos (posI_spec h v0 v1).2.1]
theorem l19Back_eq {l : List Int} (h : Bj l) (hs : l.length ≤ 1000) : M.spec_l19Back l = some (bkL l) := back_eq h hs
theorem Good.perm (h : Shp c) {p : Int × Int} (p0 : 0 ≤ p.1) (p1 : p.1 < c.Objects) {b : List Int} (hg : Good c p b) : b.Perm (homL c p.1 p.2) := by
  unfold Good at hg
  split at hg
  · rename_i e
    obtain ⟨t, rfl, ht⟩ := hg
    rw [← e] at ht ⊢
    exact ((List.perm_cons _).2 ht).trans (hom_split h p0 p1)
  · exact hg
theorem CandP.mem (h : Shp c) : ∀ {ps : List (Int × Int)} {l : List Int}, (∀ p ∈ ps, 0 ≤ p.1 ∧ p.1 < c.Objects) → CandP c ps l → ∀ f, f ∈ l ↔ (0 ≤ f ∧ f < (c.From.length : Int) ∧ (el c.From f, el c.To f) ∈ ps)
  | [], l, _, hc, f => by
    obtain rfl : l = [] := hc
    simp
  | p :: ps, l, hp, hc, f => by
    obtain ⟨b, t, rfl, hg, ht⟩ := hc
    have hp1 := hp p (List.mem_cons_self ..)
    have ih := CandP.mem h (fun q hq => hp q (List.mem_cons_of_mem _ hq)) ht f
    rw [List.mem_append, (hg.perm h hp1.1 hp1.2).mem_iff, homL_mem, ih, List.mem_cons]
    constructor
    · rintro (⟨f0, f1, h1, h2⟩ | ⟨f0, f1, h2⟩)
      · exact ⟨f0, f1, .inl (by rw [h1, h2])⟩
      · exact ⟨f0, f1, .inr h2⟩
    · rintro ⟨f0, f1, e | h2⟩
      · exact .inl ⟨f0, f1, congrArg Prod.fst e, congrArg Prod.snd e⟩
      · exact .inr ⟨f0, f1, h2⟩
theorem CandP.nodup (h : Shp c) : ∀ {ps : List (Int × Int)} {l : List Int}, (∀ p ∈ ps, 0 ≤ p.1 ∧ p.1 < c.Objects) → ps.Nodup → CandP c ps l → l.Nodup
  | [], l, _, _, hc => by
    obtain rfl : l = [] := hc
    exact List.nodup_nil
  | p :: ps, l, hp, hn, hc => by
    obtain ⟨b, t, rfl, hg, ht⟩ := hc
    have hp1 := hp p (List.mem_cons_self ..)
    have hps := fun q hq => hp q (List.mem_cons_of_mem p hq)
    have hn' := List.nodup_cons.1 hn
    have hb := hg.perm h hp1.1 hp1.2
    rw [List.nodup_append]
    refine ⟨hb.nodup_iff.2 (homL_nodup _ _), CandP.nodup h hps hn'.2 ht, fun x hx y hy e => ?_⟩
    subst e
    obtain ⟨_, _, h1, h2⟩ := homL_mem.1 (hb.mem_iff.1 hx)
    obtain ⟨_, _, h3⟩ := (CandP.mem h hps ht x).1 hy
    rw [h1, h2] at h3
    exact hn'.1 h3
theorem pairs_nodup {o : List Int} (h : o.Nodup) : (pairs o).Nodup := by
  unfold pairs
  rw [List.nodup_iff_pairwise_ne, List.pairwise_flatMap]
  rw [List.nodup_iff_pairwise_ne] at h
  refine ⟨fun x _ => ?_, ?_⟩
  · rw [List.pairwise_map]
    exact List.Pairwise.imp (fun h e => h (congrArg Prod.snd e)) h
  · refine List.Pairwise.imp (fun h p hp q hq e => ?_) h
    obtain ⟨_, _, rfl⟩ := List.mem_map.1 hp
    obtain ⟨_, _, rfl⟩ := List.mem_map.1 hq
    exact h (congrArg Prod.fst e)
theorem cand_perm (h : Shp c) {o l : List Int} (ho : Ord c o) (hc : CandP c (pairs o) l) : l.Perm (tab (c.From.length : Int) fun j => j) := by
  have hp : ∀ p ∈ pairs o, 0 ≤ p.1 ∧ p.1 < c.Objects := fun p hp => ho.mem.1 (mem_pairs.1 hp).1
  refine (List.perm_ext_iff_of_nodup (CandP.nodup h hp (pairs_nodup ho.nodup) hc) ?_).2 fun f => ?_
  · unfold tab
    rw [List.nodup_iff_pairwise_ne, List.pairwise_map]
    exact List.Pairwise.imp (fun h e => absurd e (by dsimp only; omega)) (List.pairwise_lt_range)
  · rw [CandP.mem h hp hc, mem_pairs]
    unfold tab
    rw [List.mem_map]
    constructor
    · rintro ⟨f0, f1, _⟩
      exact ⟨f.toNat, List.mem_range.2 (by omega), by dsimp only; omega⟩
    · rintro ⟨k, hk, rfl⟩
      have hk := List.mem_range.1 hk
      have a := h.from_in (k : Int) (by omega) (by omega)
      have b := h.to_in (k : Int) (by omega) (by omega)
      exact ⟨by dsimp only; omega, by dsimp only; omega, ho.mem.2 a, ho.mem.2 b⟩
structure Cd (c : XCategory) (o l : List Int) : Prop where
  shp : Shp c
  ord : Ord c o
  cand : CandP c (pairs o) l
  ol : (o.length : Int) = c.Objects
  ll : (l.length : Int) = (c.From.length : Int)
  bo : Bj o
  bl : Bj l
theorem cd_of (h : Shp c) {o l : List Int} (ho : Ord c o) (hc : CandP c (pairs o) l) : Cd c o l := by
  have a := bj_of h.n0 (l := o) ho
  have b := bj_of (by omega) (cand_perm h ho hc)
  exact ⟨h, ho, hc, a.1, b.1, a.2, b.2⟩
noncomputable def RN (c : XCategory) (o l : List Int) : XCategory :=
  ⟨c.Objects, tab (c.From.length : Int) fun k => posI o (el c.From (el l k)), tab (c.From.length : Int) fun k => posI o (el c.To (el l k)),
   tab c.Objects fun i => posI l (el c.Identity (el o i)),
   tab (c.From.length : Int) fun k => tab (c.From.length : Int) fun j => if el c.To (el l k) = el c.From (el l j) then posI l (cmp c (el l k) (el l j)) else -1⟩
end Go.Gx
namespace Go.Gx
open Classical
set_option maxHeartbeats 1000000
variable {c : XCategory} {o l : List Int}
theorem l10Renumber_eq (h : Cd c o l) : M.spec_l10Renumber c (bkL o) (bkL l) = some (RN c o l) := by
  have hS := h.shp
  have n0 := hS.n0
  have n8 := hS.n8
  have m40 := hS.m40
  have lto := hS.lto
  have lid := hS.lid
  have lco := hS.lco
  have ol := h.ol
  have ll := h.ll
  have lbo := bkL_len o
  have lbl := bkL_len l
  apply Ret.eq
  unfold M.spec_l10Renumber
  refine Ret.call (l19Back_eq (bkL_bj h.bo) (by omega)) (Ret.call (l19Back_eq (bkL_bj h.bl) (by omega)) ?_)
  rw [bkL_bkL h.bo, bkL_bkL h.bl]
  refine Ret.acc (o.length : Int) (fun i s => s = tab i fun i => posI l (el c.Identity (el o i))) (by omega) (by omega) rfl ?_ ?_
  · rintro i s next i0 i1 rfl hn
    dsimp only
    rw [if_pos (decide_eq_true i1)]
    have a := h.bo.inr i i0 i1
    have b := hS.id_in (el o i) a.1 (by omega)
    refine Ret.idx i0 i1 (Ret.idx a.1 (by omega) (Ret.idx b.1 (by omega) (Ret.chk ?_ (hn _ ?_))))
    · rw [tab_length]; unfold lim; simp only [List.length_cons, List.length_nil]; omega
    · rw [tab_succ _ i0, el_bkL b.1 (by omega)]
  · rintro s next rfl
    dsimp only
    rw [if_neg (by simp)]
    refine Ret.loop (l.length : Int) (fun k s => s.2.2.2 = k ∧ s.1 = tab k (fun k => posI o (el c.From (el l k))) ∧ s.2.1 = tab k (fun k => posI o (el c.To (el l k))) ∧
      s.2.2.1 = tab k fun k => tab (c.From.length : Int) fun j => if el c.To (el l k) = el c.From (el l j) then posI l (cmp c (el l k) (el l j)) else -1) (by omega) (by omega) ⟨rfl, rfl, rfl, rfl⟩ ?_ ?_
    · rintro k ⟨s1, s2, s3, k'⟩ next2 k0 k1 ⟨e0, e1, e2, e3⟩ hn2
      dsimp only at *
      subst e0 e1 e2 e3
      rw [if_pos (decide_eq_true k1)]
      have a := h.bl.inr k' k0 k1
      have f1 := hS.from_in (el l k') a.1 (by omega)
      have f2 := hS.to_in (el l k') a.1 (by omega)
      have rw_ := hS.row (el l k') a.1 (by omega)
      refine Ret.idx k0 k1 (Ret.idx a.1 (by omega) (Ret.idx f1.1 (by omega) (Ret.chk ?_ (Ret.idx a.1 (by omega) (Ret.idx f2.1 (by omega) (Ret.chk ?_ ?_))))))
      · rw [tab_length]; unfold lim; simp only [List.length_cons, List.length_nil]; omega
      · rw [tab_length]; unfold lim; simp only [List.length_cons, List.length_nil]; omega
      refine Ret.acc (l.length : Int) (fun j s => s = tab j fun j => if el c.To (el l k') = el c.From (el l j) then posI l (cmp c (el l k') (el l j)) else -1) (by omega) (by omega) rfl ?_ ?_
      · rintro j s next3 j0 j1 rfl hn3
        dsimp only
        rw [if_pos (decide_eq_true j1)]
        have b := h.bl.inr j j0 j1
        refine Ret.idx a.1 (by omega) (Ret.idx j0 j1 (Ret.idx b.1 (by omega) ?_))
        show Ret (if decide (cmp c (el l k') (el l j) ≥ 0) = true then _ else _) _
        have hl : (tab j fun j => if el c.To (el l k') = el c.From (el l j) then posI l (cmp c (el l k') (el l j)) else -1).length + 1 ≤ lim := by rw [tab_length]; unfold lim; omega
        by_cases e : el c.To (el l k') = el c.From (el l j)
        · have y := hS.yes _ _ a.1 (by omega) b.1 (by omega) e
          rw [if_pos (decide_eq_true y.1)]
          refine Ret.idx (i := cmp c (el l k') (el l j)) y.1 (by omega) (Ret.chk hl (hn3 _ ?_))
          rw [tab_succ _ j0, if_pos e, el_bkL y.1 (by omega)]
        · have y := hS.no _ _ a.1 (by omega) b.1 (by omega) e
          rw [if_neg (fun hd => by have := of_decide_eq_true hd; omega)]
          refine Ret.chk hl (hn3 _ ?_)
          rw [tab_succ _ j0, if_neg e]
          show _ ++ [cmp c (el l k') (el l j)] = _
          rw [y]
      · rintro s next3 rfl
        dsimp only
        rw [if_neg (by simp)]
        refine Ret.chk (by rw [tab_length]; unfold lim; omega) (hn2 _ ⟨?_, ?_, ?_, ?_⟩)
        · exact wrap_in (by omega) (by omega)
        · dsimp only
          rw [tab_succ _ k0, el_bkL f1.1 (by omega)]
        · dsimp only
          rw [tab_succ _ k0, el_bkL f2.1 (by omega)]
        · dsimp only
          rw [tab_succ _ k0, ll]
    · rintro ⟨s1, s2, s3, k'⟩ next2 ⟨e0, e1, e2, e3⟩
      dsimp only at *
      subst e0 e1 e2 e3
      rw [if_neg (by simp)]
      refine Ret.some ?_
      unfold RN
      rw [ol, ll]
theorem renumber_eq (h : Cd c o l) : M.iC_renumber c (bkL o) (bkL l) = some (RN c o l) := by
  have hS := h.shp
  have n0 := hS.n0
  have n8 := hS.n8
  have m40 := hS.m40
  have lto := hS.lto
  have lid := hS.lid
  have lco := hS.lco
  have ol := h.ol
  have ll := h.ll
  have lbo := bkL_len o
  have lbl := bkL_len l
  have pf : ∀ f, 0 ≤ f → f < (c.From.length : Int) → 0 ≤ posI l f ∧ posI l f < (c.From.length : Int) ∧ el l (posI l f) = f := fun f f0 f1 => by
    have := posI_spec h.bl f0 (by omega); omega
  have po : ∀ x, 0 ≤ x → x < c.Objects → 0 ≤ posI o x ∧ posI o x < c.Objects ∧ el o (posI o x) = x := fun f f0 f1 => by
    have := posI_spec h.bo f0 (by omega); omega
  apply Ret.eq
  unfold M.iC_renumber M.iC_arrows
  simp only [Option.bind_some]
  refine Ret.chk ⟨by omega, by unfold lim; omega⟩ (Ret.chk ⟨by omega, by unfold lim; omega⟩ ?_)
  refine Ret.loop ((bkL l).length : Int) (fun f s => s.2.2 = f ∧ s.1 = tab (c.From.length : Int) (fun k => if el l k < f then posI o (el c.From (el l k)) else 0) ∧
    s.2.1 = tab (c.From.length : Int) (fun k => if el l k < f then posI o (el c.To (el l k)) else 0)) (by omega) (by omega) ⟨rfl, ?_, ?_⟩ ?_ ?_
  · dsimp only
    rw [rep_tab]; apply tab_congr; intro k k0 k1
    have := h.bl.inr k k0 (by omega)
    rw [if_neg (by omega)]
  · dsimp only
    rw [rep_tab]; apply tab_congr; intro k k0 k1
    have := h.bl.inr k k0 (by omega)
    rw [if_neg (by omega)]
  · rintro f ⟨s1, s2, f'⟩ next f0 f1 ⟨e0, e1, e2⟩ hn
    dsimp only at *
    subst e0 e1 e2
    rw [if_pos (decide_eq_true f1)]
    have a := pf f' f0 (by omega)
    have b1 := hS.from_in f' f0 (by omega)
    have b2 := hS.to_in f' f0 (by omega)
    have ea : el (bkL l) f' = posI l f' := el_bkL f0 (by omega)
    refine Ret.idx f0 f1 ?_
    rw [ea]
    refine Ret.idx f0 (by omega) (Ret.idx b1.1 (by omega) (Ret.idx a.1 (by rw [tab_length]; omega) (Ret.idx f0 (by omega) (Ret.idx b2.1 (by omega) (Ret.idx a.1 (by rw [tab_length]; omega) (hn _ ⟨?_, ?_, ?_⟩))))))
    · exact wrap_in (by omega) (by omega)
    · dsimp only
      rw [set_tab a.1, el_bkL b1.1 (by omega)]
      apply tab_congr; intro k k0 k1
      by_cases e : k = posI l f'
      · subst e
        rw [if_pos rfl, a.2.2, if_pos (by omega)]
      · have : el l k ≠ f' := fun he => e (by rw [← he]; exact (posI_el h.bl k0 (by omega)).symm)
        rw [if_neg e]
        by_cases h1 : el l k < f'
        · rw [if_pos h1, if_pos (by omega)]
        · rw [if_neg h1, if_neg (by omega)]
    · dsimp only
      rw [set_tab a.1, el_bkL b2.1 (by omega)]
      apply tab_congr; intro k k0 k1
      by_cases e : k = posI l f'
      · subst e
        rw [if_pos rfl, a.2.2, if_pos (by omega)]
      · have : el l k ≠ f' := fun he => e (by rw [← he]; exact (posI_el h.bl k0 (by omega)).symm)
        rw [if_neg e]
        by_cases h1 : el l k < f'
        · rw [if_pos h1, if_pos (by omega)]
        · rw [if_neg h1, if_neg (by omega)]
  · rintro ⟨s1, s2, f'⟩ next ⟨e0, e1, e2⟩
    dsimp only at *
    subst e0
    rw [if_neg (by simp)]
    have e1' : s1 = tab (c.From.length : Int) fun k => posI o (el c.From (el l k)) := by
      rw [e1]; apply tab_congr; intro k k0 k1
      have := h.bl.inr k k0 (by omega)
      rw [if_pos (by omega)]
    have e2' : s2 = tab (c.From.length : Int) fun k => posI o (el c.To (el l k)) := by
      rw [e2]; apply tab_congr; intro k k0 k1
      have := h.bl.inr k k0 (by omega)
      rw [if_pos (by omega)]
    clear e1 e2
    subst e1' e2'
    refine Ret.acc (c.Identity.length : Int) (fun x s => s = tab c.Objects fun i => if el o i < x then posI l (el c.Identity (el o i)) else 0) (by omega) (by omega) ?_ ?_ ?_
    · rw [rep_tab]; apply tab_congr; intro k k0 k1
      have := h.bo.inr k k0 (by omega)
      rw [if_neg (by omega)]
    · rintro x s next2 x0 x1 rfl hn2
      dsimp only
      rw [if_pos (decide_eq_true x1)]
      have a := po x x0 (by omega)
      have b := hS.id_in x x0 (by omega)
      have ea : el (bkL o) x = posI o x := el_bkL x0 (by omega)
      refine Ret.idx x0 x1 (Ret.idx x0 (by omega) ?_)
      rw [ea]
      refine Ret.idx b.1 (by omega) (Ret.idx a.1 (by rw [tab_length]; omega) (hn2 _ ?_))
      rw [set_tab a.1, el_bkL b.1 (by omega)]
      apply tab_congr; intro k k0 k1
      by_cases e : k = posI o x
      · subst e
        rw [if_pos rfl, a.2.2, if_pos (by omega)]
      · have : el o k ≠ x := fun he => e (by rw [← he]; exact (posI_el h.bo k0 (by omega)).symm)
        rw [if_neg e]
        by_cases h1 : el o k < x
        · rw [if_pos h1, if_pos (by omega)]
        · rw [if_neg h1, if_neg (by omega)]
    · rintro s next2 rfl
      dsimp only
      rw [if_neg (by simp)]
      have e3 : (tab c.Objects fun i => if el o i < (c.Identity.length : Int) then posI l (el c.Identity (el o i)) else 0) = tab c.Objects fun i => posI l (el c.Identity (el o i)) := by
        apply tab_congr; intro k k0 k1
        have := h.bo.inr k k0 (by omega)
        rw [if_pos (by omega)]
      rw [e3]
      refine Ret.call (back_eq (bkL_bj h.bl) (by omega)) ?_
      rw [bkL_bkL h.bl]
      have lt : ((tab (c.From.length : Int) fun k => posI o (el c.From (el l k))).length : Int) = (c.From.length : Int) := by rw [tab_length]; omega
      have lt2 : ((tab (c.From.length : Int) fun k => posI o (el c.To (el l k))).length : Int) = (c.From.length : Int) := by rw [tab_length]; omega
      have meet : ∀ i j, 0 ≤ i → i < (c.From.length : Int) → 0 ≤ j → j < (c.From.length : Int) →
          (el (tab (c.From.length : Int) fun k => posI o (el c.To (el l k))) i = el (tab (c.From.length : Int) fun k => posI o (el c.From (el l k))) j ↔ el c.To (el l i) = el c.From (el l j)) := fun i j i0 i1 j0 j1 => by
        rw [el_tab i0 i1, el_tab j0 j1]
        have a := h.bl.inr i i0 (by omega)
        have b := h.bl.inr j j0 (by omega)
        have a2 := hS.to_in (el l i) a.1 (by omega)
        have b2 := hS.from_in (el l j) b.1 (by omega)
        have p1 := po _ a2.1 a2.2
        have p2 := po _ b2.1 b2.2
        exact ⟨fun e => by rw [← p1.2.2, ← p2.2.2, e], fun e => by rw [e]⟩
      refine Ret.call (table_eq (v := fun i j => posI l (cmp c (el l i) (el l j))) (by dsimp only; omega) (by dsimp only; omega) ?_) (Ret.some ?_)
      · intro i j i0 i1 j0 j1 e
        dsimp only at i1 j1 e
        have i1' : i < (c.From.length : Int) := by omega
        have j1' : j < (c.From.length : Int) := by omega
        rw [meet i j i0 i1' j0 j1'] at e
        have a := h.bl.inr i i0 (by omega)
        have b := h.bl.inr j j0 (by omega)
        have r := hS.row (el l i) a.1 (by omega)
        have y := hS.yes _ _ a.1 (by omega) b.1 (by omega) e
        unfold M.iC_renumber_1
        rw [idx_el i0 (by omega), Option.bind_some, idx_el j0 (by omega), Option.bind_some, then_eq a.1 (by omega) b.1 (by omega), Option.bind_some, idx_el y.1 (by omega), Option.bind_some, el_bkL y.1 (by omega)]
      · unfold RN
        dsimp only
        rw [lt]
        congr 1
        apply tab_congr; intro i i0 i1
        apply tab_congr; intro j j0 j1
        by_cases e : el c.To (el l i) = el c.From (el l j)
        · rw [if_pos e, if_pos ((meet i j i0 i1 j0 j1).2 e)]
        · rw [if_neg e, if_neg (fun he => e ((meet i j i0 i1 j0 j1).1 he))]
end Go.Gx
namespace Go.Gx
open Classical
set_option maxHeartbeats 1000000
variable {c : XCategory} {o l : List Int}
theorem l02Hom_any {d : XCategory} (m40 : (d.From.length : Int) ≤ 40) (lto : (d.To.length : Int) = (d.From.length : Int)) (x y : Int) : M.spec_l02Hom d x y = some (homL d x y) := by
  apply Ret.eq
  unfold M.spec_l02Hom
  refine Ret.acc (d.From.length : Int) (fun i a => a = fil i fun s => el d.From s == x && el d.To s == y) (by omega) (by omega) rfl ?_ ?_
  · rintro i a next hi0 hi1 rfl hn1
    have hle := fil_length_le i fun s => el d.From s == x && el d.To s == y
    dsimp only
    simp only [decide_eq_true_eq, beq_iff_eq]
    rw [if_pos hi1]
    refine Ret.idx hi0 hi1 (Ret.ite (fun h1 => Ret.idx hi0 (by omega) (Ret.ite (fun h2 => Ret.chk (by unfold lim; simp only [List.length_cons, List.length_nil]; omega) (hn1 _ ?_)) (fun h2 => hn1 _ ?_))) (fun h1 => hn1 _ ?_))
    · rw [fil_succ _ hi0]; simp [h1, h2]
    · rw [fil_succ _ hi0]; simp [h2]
    · rw [fil_succ _ hi0]; simp [h1]
  · rintro a next rfl
    dsimp only
    simp only [decide_eq_true_eq]
    rw [if_neg (by omega)]
    exact Ret.some rfl
theorem fil_via (n : Int) (f : Int → Int) (q : Int → Bool) : (fil n fun k => q (f k)).length = ((tab n f).filter q).length := by
  unfold fil tab
  rw [List.filter_map, List.filter_map, List.length_map, List.length_map]; rfl
theorem RN_from (c : XCategory) (o l : List Int) : ((RN c o l).From.length : Int) = (c.From.length : Int) := by unfold RN; dsimp only; rw [tab_length]; omega
theorem RN_to (c : XCategory) (o l : List Int) : ((RN c o l).To.length : Int) = (c.From.length : Int) := by unfold RN; dsimp only; rw [tab_length]; omega
theorem RN_comp (c : XCategory) (o l : List Int) : ((RN c o l).Composites.length : Int) = (c.From.length : Int) := by unfold RN; dsimp only; rw [tab_length]; omega
theorem RN_row (c : XCategory) (o l : List Int) : ∀ r ∈ (RN c o l).Composites, (r.length : Int) = (c.From.length : Int) := by
  intro r hr
  unfold RN tab at hr
  dsimp only at hr
  obtain ⟨k, _, rfl⟩ := List.mem_map.1 hr
  rw [List.length_map, List.length_range]; omega
theorem homR_len (h : Cd c o l) {x y : Int} (x0 : 0 ≤ x) (x1 : x < c.Objects) (y0 : 0 ≤ y) (y1 : y < c.Objects) : (homL (RN c o l) x y).length = (homL c (el o x) (el o y)).length := by
  have hS := h.shp
  have ll := h.ll
  have ol := h.ol
  have e1 : homL (RN c o l) x y = fil (c.From.length : Int) fun k => (fun f => el c.From f == el o x && el c.To f == el o y) (el l k) := by
    unfold homL
    rw [RN_from]
    apply fil_congr
    intro k k0 k1
    have a := h.bl.inr k k0 (by omega)
    have b1 := hS.from_in (el l k) a.1 (by omega)
    have b2 := hS.to_in (el l k) a.1 (by omega)
    have p1 := posI_spec h.bo b1.1 (by omega)
    have p2 := posI_spec h.bo b2.1 (by omega)
    unfold RN
    dsimp only
    rw [el_tab k0 k1, el_tab k0 k1]
    have q1 : (posI o (el c.From (el l k)) == x) = (el c.From (el l k) == el o x) := by
      rw [Bool.eq_iff_iff, beq_iff_eq, beq_iff_eq]
      exact ⟨fun e => by rw [← e]; exact p1.2.2.symm, fun e => by rw [e]; exact posI_el h.bo x0 (by omega)⟩
    have q2 : (posI o (el c.To (el l k)) == y) = (el c.To (el l k) == el o y) := by
      rw [Bool.eq_iff_iff, beq_iff_eq, beq_iff_eq]
      exact ⟨fun e => by rw [← e]; exact p2.2.2.symm, fun e => by rw [e]; exact posI_el h.bo y0 (by omega)⟩
    rw [q1, q2]
  rw [e1]
  refine (fil_via (c.From.length : Int) (el l) fun f => el c.From f == el o x && el c.To f == el o y).trans ?_
  rw [show tab (c.From.length : Int) (el l) = l by rw [← ll]; exact tab_el l]
  exact ((cand_perm hS h.ord h.cand).filter _).length_eq
def szL (c : XCategory) (o : List Int) : List Int := (pairs o).map fun p => ((homL c p.1 p.2).length : Int)
theorem l01Flat_eq {r : List (List Int)} (h1 : r.length ≤ 100) (h2 : ∀ x ∈ r, x.length ≤ 100) : M.spec_l01Flat r = some r.flatten := by
  apply Ret.eq
  unfold M.spec_l01Flat
  refine Ret.acc (r.length : Int) (fun i s => s = (r.take i.toNat).flatten ∧ (s.length : Int) ≤ 100 * i) (by omega) (by omega) ⟨rfl, by simp⟩ ?_ ?_
  · rintro i s next i0 i1 ⟨rfl, hl⟩ hn
    dsimp only
    rw [if_pos (decide_eq_true i1)]
    have := h2 _ (el_mem i0 i1)
    refine Ret.idx i0 i1 (Ret.chk (by unfold lim; omega) (hn _ ⟨?_, ?_⟩))
    · rw [take_succ_el i0 i1, List.flatten_append]; simp
    · rw [List.length_append]; omega
  · rintro s next ⟨rfl, _⟩
    dsimp only
    rw [if_neg (by simp)]
    exact Ret.some (by simp)
noncomputable def mkC (c : XCategory) (o l : List Int) : List Int := szL c o ++ (RN c o l).Composites.flatten
theorem l10Mark_eq (h : Cd c o l) : M.spec_l10Mark (RN c o l) = some (mkC c o l) := by
  have hS := h.shp
  have n0 := hS.n0
  have n8 := hS.n8
  have m40 := hS.m40
  have ol := h.ol
  have rf := RN_from c o l
  have rt := RN_to c o l
  have rc := RN_comp c o l
  have hob : (RN c o l).Objects = c.Objects := rfl
  apply Ret.eq
  unfold M.spec_l10Mark
  rw [hob]
  refine Ret.acc c.Objects (fun x s => s = (PS o x 0).map fun p => ((homL c p.1 p.2).length : Int)) n0 (by omega) (by rw [PS_zero]; rfl) ?_ ?_
  · rintro x s next x0 x1 rfl hn
    dsimp only
    rw [if_pos (decide_eq_true x1)]
    refine Ret.acc c.Objects (fun y s => s = (PS o x y).map fun p => ((homL c p.1 p.2).length : Int)) n0 (by omega) rfl ?_ ?_
    · rintro y s next2 y0 y1 rfl hn2
      dsimp only
      rw [if_pos (decide_eq_true y1)]
      obtain ⟨post, hpost⟩ := PS_pre (o := o) x0 (by omega) y0 (by omega)
      have hlenP : (PS o x y).length ≤ 64 := by
        have := congrArg List.length hpost
        rw [pairs_len, List.length_append, List.length_cons] at this
        have : o.length * o.length ≤ 8 * 8 := Nat.mul_le_mul (by omega) (by omega)
        omega
      refine Ret.call (l02Hom_any (by omega) (by omega) x y) (Ret.chk ?_ (hn2 _ ?_))
      · rw [List.length_map]; unfold lim; simp only [List.length_cons, List.length_nil]; omega
      · rw [PS_succ y0 (by omega), List.map_append, homR_len h x0 x1 y0 y1]; rfl
    · rintro s next2 rfl
      dsimp only
      rw [if_neg (by simp)]
      refine hn _ ?_
      rw [← ol, PS_row x0 (by omega)]
  · rintro s next rfl
    dsimp only
    rw [if_neg (by simp)]
    have hr := RN_row c o l
    refine Ret.call (l01Flat_eq (by omega) (fun x hx => by have := hr x hx; omega)) ?_
    have hp := pairs_len o
    have : o.length * o.length ≤ 8 * 8 := Nat.mul_le_mul (by omega) (by omega)
    have hfl : ∀ r : List (List Int), (∀ x ∈ r, (x.length : Int) ≤ 40) → (r.flatten.length : Int) ≤ 40 * (r.length : Int) := by
      intro r
      induction r with
      | nil => intro _; simp
      | cons a r ih =>
        intro hx
        have h1 := hx a (List.mem_cons_self ..)
        have h2 := ih fun x hx' => hx x (List.mem_cons_of_mem _ hx')
        rw [List.flatten_cons, List.length_append, List.length_cons]; omega
    have := hfl _ (fun x hx => by have := hr x hx; omega)
    rw [← ol, PS_all]
    refine Ret.chk ?_ (Ret.some rfl)
    rw [List.length_map]; unfold lim; omega
theorem mkC_small (h : Cd c o l) : (mkC c o l).length ≤ 100000 := by
  have hS := h.shp
  have m40 := hS.m40
  have n8 := hS.n8
  have ol := h.ol
  have rc := RN_comp c o l
  have hr := RN_row c o l
  have hp := pairs_len o
  have : o.length * o.length ≤ 8 * 8 := Nat.mul_le_mul (by omega) (by omega)
  have hfl : ∀ r : List (List Int), (∀ x ∈ r, (x.length : Int) ≤ 40) → (r.flatten.length : Int) ≤ 40 * (r.length : Int) := by
    intro r
    induction r with
    | nil => intro _; simp
    | cons a r ih =>
      intro hx
      have h1 := hx a (List.mem_cons_self ..)
      have h2 := ih fun x hx' => hx x (List.mem_cons_of_mem _ hx')
      rw [List.flatten_cons, List.length_append, List.length_cons]; omega
  have := hfl _ (fun x hx => by have := hr x hx; omega)
  unfold mkC szL
  rw [List.length_append, List.length_map]; omega
def keyI (d : XCategory) : List Int := d.Composites.flatten
def OkB (c : XCategory) (b : Option XCategory) : Prop := ∀ d, b = some d → (d.Composites.length : Int) = (c.From.length : Int) ∧ ∀ r ∈ d.Composites, (r.length : Int) = (c.From.length : Int)
theorem OkB_RN : OkB c (some (RN c o l)) := fun d e => by
  obtain rfl := Option.some.inj e
  exact ⟨RN_comp c o l, RN_row c o l⟩
theorem leastForm_1_eq (m40 : (c.From.length : Int) ≤ 40) {b : Option XCategory} (hb : OkB c b) : M.iC_leastForm_1 (RN c o l) b = some (lstep keyI b (RN c o l)) ∧ OkB c (lstep keyI b (RN c o l)) := by
  cases b with
  | none => exact ⟨rfl, OkB_RN⟩
  | some d =>
    have hd := hb d rfl
    have rc := RN_comp c o l
    have hr := RN_row c o l
    have hc : M.iC_leastForm_1 (RN c o l) (some d) = some (lstep keyI (some d) (RN c o l)) := by
      apply Ret.eq
      unfold M.iC_leastForm_1
      rw [if_neg (by simp)]
      refine Ret.bind (CompareFunc_r (by omega) (by show (RN c o l).Composites.length = d.Composites.length; omega) (fun i i0 i1 => ?_)) fun v hv => ?_
      · have h1 := hr _ (el_mem i0 i1)
        have h2 := hd.2 (el d.Composites i) (el_mem i0 (by omega))
        constructor
        · show (el (RN c o l).Composites i).length = (el d.Composites i).length
          omega
        · omega
      · refine Ret.ite (fun h => Ret.some ?_) (fun h => Ret.some ?_)
        · have : llt (keyI (RN c o l)) (keyI d) = true := hv.1 (of_decide_eq_true h)
          show _ = if llt (keyI (RN c o l)) (keyI d) = true then some (RN c o l) else some d
          rw [if_pos this]
        · have : ¬ llt (keyI (RN c o l)) (keyI d) = true := fun e => h (decide_eq_true (hv.2 e))
          show _ = if llt (keyI (RN c o l)) (keyI d) = true then some (RN c o l) else some d
          rw [if_neg this]; rfl
    refine ⟨hc, ?_⟩
    show OkB c (if llt (keyI (RN c o l)) (keyI d) = true then some (RN c o l) else some d)
    split
    · exact OkB_RN
    · exact hb
theorem gL_small (h : Shp c) (o : List Int) : ∀ g ∈ gL c (pairs o), g.length ≤ 64 := by
  intro g hg
  unfold gL at hg
  obtain ⟨p, _, hp⟩ := List.mem_flatMap.1 hg
  have hm := homL_len h p.1 p.2
  have hl : (restL c p.1 p.2).length ≤ (homL c p.1 p.2).length := List.length_filter_le ..
  split at hp
  · rcases List.mem_cons.1 hp with rfl | hp
    · simp
    · rw [List.mem_singleton.1 hp]; omega
  · rw [List.mem_singleton.1 hp]; omega
noncomputable def visL (c : XCategory) (o : List Int) : List XCategory := (prodV (gL c (pairs o)) []).map (RN c o)
theorem forms_eq (h : Shp c) (ho : Ord c o) {b : Option XCategory} (hb : OkB c b) : M.iC_forms c o b = some ((visL c o).foldl (lstep keyI) b) := by
  have n0 := h.n0
  have n8 := h.n8
  have m40 := h.m40
  have ol := ho.len n0
  have bo := (bj_of n0 (l := o) ho).2
  apply Ret.eq
  refine forms_r h ho (Ret.call (back_eq bo (by omega)) ?_)
  have hl := gL_len (c := c) (pairs o)
  have hp := pairs_len o
  have : o.length * o.length ≤ 8 * 8 := Nat.mul_le_mul (by omega) (by omega)
  rw [nil_eq_forms (P := OkB c) (U := fun t b => lstep keyI b (RN c o t)) (by omega) (gL_small h o) (fun t ht b hb => ?_) hb]
  · refine Ret.some ?_
    unfold visL
    rw [List.foldl_map]
  · have hc := cd_of h ho ((GP_gL h _ t).1 ht)
    have ll := hc.ll
    have key := leastForm_1_eq (c := c) (o := o) (l := t) m40 hb
    refine ⟨?_, key.2⟩
    unfold leafM
    rw [back_eq hc.bl (by omega), Option.bind_some, renumber_eq hc, Option.bind_some, key.1]; rfl
theorem mem_visL (h : Shp c) {d : XCategory} : d ∈ visL c o ↔ ∃ t, CandP c (pairs o) t ∧ d = RN c o t := by
  unfold visL
  rw [List.mem_map]
  constructor
  · rintro ⟨t, ht, rfl⟩
    obtain ⟨t', e, h'⟩ := (mem_prodV _ _ t).1 ht
    rw [e, List.nil_append]
    exact ⟨t', (GP_gL h _ _).1 h', rfl⟩
  · rintro ⟨t, ht, rfl⟩
    exact ⟨t, (mem_prodV _ _ t).2 ⟨t, rfl, (GP_gL h _ _).2 ht⟩, rfl⟩
noncomputable def spL (c : XCategory) (o : List Int) : List (List Int × List Int) := (GG c (pairs o)).map fun t => (o, t)
theorem mem_GG {t : List Int} : t ∈ GG c (pairs o) ↔ CandP c (pairs o) t := by
  unfold GG
  rw [mem_lists]
  simp
noncomputable def keyS (c : XCategory) (p : List Int × List Int) : List Int := mkC c p.1 p.2
def RepS (c : XCategory) (L : List (List Int × List Int)) (s : (List Int) × Int × (List Int) × (List Int) × (List Int) × (List (List Int)) × Int) : Prop :=
  ∀ p, L.foldl (lstep (keyS c)) none = some p → s.1 = mkC c p.1 p.2 ∧ s.2.1 = (RN c p.1 p.2).Objects ∧ s.2.2.1 = (RN c p.1 p.2).From ∧ s.2.2.2.1 = (RN c p.1 p.2).To ∧ s.2.2.2.2.1 = (RN c p.1 p.2).Identity ∧ s.2.2.2.2.2.1 = (RN c p.1 p.2).Composites
theorem GG_ne (h : Shp c) (ho : Ord c o) : GG c (pairs o) ≠ [] := by
  intro e
  have hp : ∀ p ∈ pairs o, 0 ≤ p.1 ∧ p.1 < c.Objects ∧ 0 ≤ p.2 := fun p hp => by
    have := mem_pairs.1 hp
    have h1 := ho.mem.1 this.1
    have h2 := ho.mem.1 this.2
    exact ⟨h1.1, h1.2, h2.1⟩
  have := lists_len h (pairs o) [[]] hp
  have p1 := wP_pos (c := c) (pairs o)
  unfold GG at e
  rw [e] at this
  simp at this; omega
noncomputable def candS (c : XCategory) : List (List Int × List Int) := (ordN c.Objects.toNat (rng c) 0).flatMap (spL c)
theorem mem_ordR (_ : 0 ≤ c.Objects) : o ∈ ordN c.Objects.toNat (rng c) 0 ↔ Ord c o := by
  have hl : (rng c).length = c.Objects.toNat := by unfold rng; rw [tab_length]
  have := mem_ordN c.Objects.toNat [] (rng c) hl o
  rw [List.nil_append] at this
  rw [show (0 : Nat) = ([] : List Int).length from rfl, this]
  unfold Ord
  simp
def LeastQ (c : XCategory) (r : XCategory) : Prop := ∃ p ∈ candS c, r = RN c p.1 p.2 ∧ ∀ e ∈ candS c, llt (keyS c e) (keyS c p) = false
theorem l10Least_r (h : Shp c) (hN : numC c ≤ 5000) : Ret (M.spec_l10Least c) (LeastQ c) := by
  have n0 := h.n0
  have n8 := h.n8
  have m40 := h.m40
  have lr : (rng c).length = c.Objects.toNat := by unfold rng; rw [tab_length]
  have hP1 := wP_pos (c := c) (pairs (rng c))
  have hT := wP_total (c := c) (o := rng c) (List.Perm.refl _)
  have hf : fac c.Objects.toNat ≤ 5000 := by
    have : fac c.Objects.toNat * 1 ≤ fac c.Objects.toNat * prodL ((pairs (rng c)).map (wP c)) := Nat.mul_le_mul_left _ hP1
    omega
  have hlists : ∀ {o : List Int}, Ord c o → (GG c (pairs o)).length ≤ 5000 := fun {o} ho => by
    have hp : ∀ p ∈ pairs o, 0 ≤ p.1 ∧ p.1 < c.Objects ∧ 0 ≤ p.2 := fun p hp => by
      have := mem_pairs.1 hp
      have h1 := ho.mem.1 this.1
      have h2 := ho.mem.1 this.2
      exact ⟨h1.1, h1.2, h2.1⟩
    have e := lists_len h (pairs o) [[]] hp
    have hT := wP_total ho
    have h1 := fac_pos c.Objects.toNat
    have : 1 * prodL ((pairs o).map (wP c)) ≤ fac c.Objects.toNat * prodL ((pairs o).map (wP c)) := Nat.mul_le_mul_right _ h1
    unfold GG
    rw [e]; simp only [List.length_cons, List.length_nil]; omega
  unfold M.spec_l10Least
  refine Ret.acc c.Objects (fun i s => s = tab i fun j => j) n0 (by omega) rfl ?_ ?_
  · rintro i s next i0 i1 rfl hn
    dsimp only
    rw [if_pos (decide_eq_true i1)]
    refine Ret.chk ?_ (hn _ (tab_succ _ i0).symm)
    rw [tab_length]; unfold lim; simp only [List.length_cons, List.length_nil]; omega
  · rintro s next rfl
    dsimp only
    rw [if_neg (by simp)]
    show Ret ((M.spec_l10Orders (rng c) 0).bind _) _
    have hO : M.spec_l10Orders (rng c) 0 = some (ordN c.Objects.toNat (rng c) 0) := by
      have := l10Orders_eq (l := rng c) (a := 0) (by omega) (by omega) (by rw [Nat.sub_zero, lr]; exact hf)
      rw [Nat.sub_zero, lr] at this
      exact this
    refine Ret.call hO ?_
    have hlen : (ordN c.Objects.toNat (rng c) 0).length ≤ 5000 := by rw [ordN_len]; exact hf
    generalize hOs : ordN c.Objects.toNat (rng c) 0 = OS at *
    have hmem : ∀ {o}, o ∈ OS → Ord c o := fun {o} ho => by rw [← hOs] at ho; exact (mem_ordR n0).1 ho
    refine Ret.loop (OS.length : Int) (fun i s => s.2.2.2.2.2.2 = i ∧ RepS c ((OS.take i.toNat).flatMap (spL c)) s) (by omega) (by omega) ⟨rfl, fun p hp => by cases hp⟩ ?_ ?_
    · rintro i ⟨s1, s2, s3, s4, s5, s6, s7⟩ next i0 i1 ⟨e7, hR⟩ hn
      dsimp only at *
      subst e7
      rw [if_pos (decide_eq_true i1)]
      have ho := hmem (el_mem i0 i1)
      have hcd : ∀ t ∈ GG c (pairs (el OS s7)), Cd c (el OS s7) t := fun t ht => cd_of h ho (mem_GG.1 ht)
      have ol := ho.len n0
      have hlg := hlists ho
      refine Ret.idx i0 i1 (Ret.call (l10Lists_eq h ho hN) ?_)
      refine Ret.loop ((GG c (pairs (el OS s7))).length : Int) (fun k z => z.2.2.2.2.2.2 = k ∧ RepS c ((OS.take s7.toNat).flatMap (spL c) ++ ((GG c (pairs (el OS s7))).take k.toNat).map fun t => (el OS s7, t)) z) (by omega) (by omega) ⟨rfl, ?_⟩ ?_ ?_
      · rw [show ((0 : Int)).toNat = 0 from rfl, List.take_zero, List.map_nil, List.append_nil]
        exact hR
      · rintro k ⟨z1, z2, z3, z4, z5, z6, z7⟩ next2 k0 k1 ⟨f7, hZ⟩ hn2
        dsimp only at *
        subst f7
        rw [if_pos (decide_eq_true k1)]
        have hc := hcd _ (el_mem k0 k1)
        have ll := hc.ll
        have hbo := hc.bo
        refine Ret.join ?_
        refine Ret.call (l19Back_eq hc.bo (by omega)) (Ret.idx k0 k1 (Ret.call (l19Back_eq hc.bl (by omega)) (Ret.call (l10Renumber_eq hc) (Ret.call (l10Mark_eq hc) ?_))))
        have hsn : ((OS.take s7.toNat).flatMap (spL c) ++ ((GG c (pairs (el OS s7))).take (z7 + 1).toNat).map fun t => (el OS s7, t)) =
            ((OS.take s7.toNat).flatMap (spL c) ++ ((GG c (pairs (el OS s7))).take z7.toNat).map fun t => (el OS s7, t)) ++ [(el OS s7, el (GG c (pairs (el OS s7))) z7)] := by
          rw [take_succ_el k0 k1, List.map_append, ← List.append_assoc]; rfl
        have w : IntKind.i64.wrap (z7 + 1) = z7 + 1 := wrap_in (by omega) (by omega)
        generalize hL : ((OS.take s7.toNat).flatMap (spL c) ++ ((GG c (pairs (el OS s7))).take z7.toNat).map fun t => (el OS s7, t)) = L at *
        have hnew : RepS c (L ++ [(el OS s7, el (GG c (pairs (el OS s7))) z7)]) (mkC c (el OS s7) (el (GG c (pairs (el OS s7))) z7), (RN c (el OS s7) (el (GG c (pairs (el OS s7))) z7)).Objects, (RN c (el OS s7) (el (GG c (pairs (el OS s7))) z7)).From, (RN c (el OS s7) (el (GG c (pairs (el OS s7))) z7)).To, (RN c (el OS s7) (el (GG c (pairs (el OS s7))) z7)).Identity, (RN c (el OS s7) (el (GG c (pairs (el OS s7))) z7)).Composites, z7 + 1) ∨ ∃ p, L.foldl (lstep (keyS c)) none = some p := by
          cases hfd : L.foldl (lstep (keyS c)) none with
          | some p => exact .inr ⟨p, rfl⟩
          | none =>
            refine .inl fun p hp => ?_
            rw [List.foldl_append, hfd] at hp
            obtain rfl := Option.some.inj hp
            exact ⟨rfl, rfl, rfl, rfl, rfl, rfl⟩
        have hcmp : ∀ {Q' : Prop}, L ≠ [] → (∀ p, L.foldl (lstep (keyS c)) none = some p → Q') → Q' := fun hne hq => by
          obtain ⟨p, hp, _⟩ := lfold_none (key := keyS c) hne
          exact hq p hp
        have body : L ≠ [] → Ret ((M.spec_l01Less (mkC c (el OS s7) (el (GG c (pairs (el OS s7))) z7)) z1).bind fun v30 =>
            if v30 = true then next2 (mkC c (el OS s7) (el (GG c (pairs (el OS s7))) z7), (RN c (el OS s7) (el (GG c (pairs (el OS s7))) z7)).Objects, (RN c (el OS s7) (el (GG c (pairs (el OS s7))) z7)).From, (RN c (el OS s7) (el (GG c (pairs (el OS s7))) z7)).To, (RN c (el OS s7) (el (GG c (pairs (el OS s7))) z7)).Identity, (RN c (el OS s7) (el (GG c (pairs (el OS s7))) z7)).Composites, IntKind.i64.wrap (z7 + 1))
            else next2 (z1, z2, z3, z4, z5, z6, IntKind.i64.wrap (z7 + 1))) (LeastQ c) := fun hne => by
          obtain ⟨p, hp, _⟩ := lfold_none (key := keyS c) hne
          have hz := hZ p hp
          dsimp only at hz
          refine Ret.call (l01Less_eq (mkC_small hc)) ?_
          rw [hz.1]
          refine Ret.ite (fun e => hn2 _ ⟨w, ?_⟩) (fun e => hn2 _ ⟨w, ?_⟩)
          · rw [hsn]
            intro p' hp'
            rw [List.foldl_append, hp] at hp'
            have e' : llt (keyS c (el OS s7, el (GG c (pairs (el OS s7))) z7)) (keyS c p) = true := e
            have : (if llt (keyS c (el OS s7, el (GG c (pairs (el OS s7))) z7)) (keyS c p) = true then some (el OS s7, el (GG c (pairs (el OS s7))) z7) else some p) = some p' := hp'
            rw [if_pos e'] at this
            obtain rfl := Option.some.inj this
            exact ⟨rfl, rfl, rfl, rfl, rfl, rfl⟩
          · rw [hsn]
            intro p' hp'
            rw [List.foldl_append, hp] at hp'
            have e' : ¬ llt (keyS c (el OS s7, el (GG c (pairs (el OS s7))) z7)) (keyS c p) = true := e
            have : (if llt (keyS c (el OS s7, el (GG c (pairs (el OS s7))) z7)) (keyS c p) = true then some (el OS s7, el (GG c (pairs (el OS s7))) z7) else some p) = some p' := hp'
            rw [if_neg e'] at this
            obtain rfl := Option.some.inj this
            exact ⟨rfl, hz.2⟩
        refine Ret.ite (fun es => Ret.ite (fun ez => ?_) (fun ez => ?_)) (fun es => ?_)
        · have es : s7 = 0 := by simpa using es
          have ez : z7 = 0 := by simpa using ez
          refine hn2 _ ⟨w, ?_⟩
          rw [hsn]
          have : L = [] := by rw [← hL, es, ez]; rfl
          rw [w]
          rcases hnew with hnew | ⟨p, hp⟩
          · exact hnew
          · rw [this] at hp; cases hp
        · have ez : z7 ≠ 0 := by simpa using ez
          refine body fun e => ?_
          rw [← hL] at e
          have := congrArg List.length e
          rw [List.length_append, List.length_map, List.length_take] at this
          simp only [List.length_nil] at this
          omega
        · have es : s7 ≠ 0 := by simpa using es
          refine body fun e => ?_
          rw [← hL] at e
          have e1 := (List.append_eq_nil_iff.1 e).1
          rw [List.flatMap_eq_nil_iff] at e1
          have hm : el OS 0 ∈ OS.take s7.toNat := by
            have h1 : el (OS.take s7.toNat) 0 = el OS 0 := by
              show (OS.take s7.toNat).getD 0 default = OS.getD 0 default
              rw [List.getD_eq_getElem?_getD, List.getD_eq_getElem?_getD, List.getElem?_take, if_pos (by omega)]
            rw [← h1]
            exact el_mem (by omega) (by rw [List.length_take]; omega)
          have e2 := e1 _ hm
          unfold spL at e2
          rw [List.map_eq_nil_iff] at e2
          exact GG_ne h (hmem (el_mem (by omega) (by omega))) e2
      · rintro ⟨z1, z2, z3, z4, z5, z6, z7⟩ next2 ⟨f7, hZ⟩
        dsimp only at *
        subst f7
        rw [if_neg (by simp)]
        refine hn _ ⟨wrap_in (by omega) (by omega), ?_⟩
        rw [take_succ_el i0 i1, List.flatMap_append]
        intro p hp
        refine hZ p ?_
        rw [show ((GG c (pairs (el OS s7))).length : Int).toNat = (GG c (pairs (el OS s7))).length by omega, List.take_length]
        simpa [spL] using hp
    · rintro ⟨s1, s2, s3, s4, s5, s6, s7⟩ next ⟨e7, hR⟩
      dsimp only at *
      subst e7
      rw [if_neg (by simp)]
      rw [show ((OS.length : Int)).toNat = OS.length by omega, List.take_length] at hR
      have hall : candS c = OS.flatMap (spL c) := by unfold candS; rw [hOs]
      have hne : OS.flatMap (spL c) ≠ [] := fun e => by
        rw [List.flatMap_eq_nil_iff] at e
        have : rng c ∈ OS := by rw [← hOs]; exact (mem_ordR n0).2 (List.Perm.refl _)
        have e2 := e _ this
        unfold spL at e2
        rw [List.map_eq_nil_iff] at e2
        exact GG_ne h (List.Perm.refl _) e2
      obtain ⟨p, hp, hpm, hmin⟩ := lfold_none (key := keyS c) hne
      obtain ⟨_, h2, h3, h4, h5, h6⟩ := hR p hp
      dsimp only at h2 h3 h4 h5 h6
      refine Ret.some ⟨p, by rw [hall]; exact hpm, ?_, by rw [hall]; exact hmin⟩
      rw [h2, h3, h4, h5, h6]
end Go.Gx
namespace Go.Gx
open Classical
set_option maxHeartbeats 1000000
variable {c : XCategory} {o l : List Int}
theorem arL_ext {f g : Nat → Int} : ∀ (n k : Nat), arL k n f = arL k n g ↔ ∀ i, k ≤ i → i < k + n → f i = g i
  | 0, k => by simp only [arL, true_iff]; intro i h1 h2; omega
  | n + 1, k => by
    show f k :: arL (k + 1) n f = g k :: arL (k + 1) n g ↔ _
    rw [List.cons.injEq, arL_ext n (k + 1)]
    constructor
    · rintro ⟨h1, h2⟩ i h3 h4
      by_cases e : i = k
      · subst e; exact h1
      · exact h2 i (by omega) (by omega)
    · intro h
      exact ⟨h k (Nat.le_refl _) (by omega), fun i h1 h2 => h i (by omega) (by omega)⟩
theorem arL_const {f : Nat → Int} : ∀ (n k : Nat), (∀ i, k ≤ i → i < k + n → f i = 0) → arL k n f = List.replicate n 0
  | 0, _, _ => rfl
  | n + 1, k, h => by
    show f k :: arL (k + 1) n f = _
    rw [h k (Nat.le_refl _) (by omega), arL_const n (k + 1) fun i h1 h2 => h i (by omega) (by omega)]; rfl
theorem arL_map {f : Nat → Int} {g : Int → Int} : ∀ (l : List Int) (k : Nat), (∀ j, j < l.length → f (k + j) = g (l.getD j 0)) → arL k l.length f = l.map g
  | [], _, _ => rfl
  | a :: l, k, h => by
    show f k :: arL (k + 1) l.length f = g a :: l.map g
    rw [arL_map l (k + 1) fun j hj => by
      have := h (j + 1) (by simpa using hj)
      rw [show k + 1 + j = k + (j + 1) by omega, this]; rfl]
    have := h 0 (by simp)
    rw [Nat.add_zero] at this
    rw [this]; rfl
def nowF (c : XCategory) (o : List Int) : Nat → Int := fun q => if q / 8 < o.length ∧ q % 8 < o.length then ((homL c (el o ((q / 8 : Nat) : Int)) (el o ((q % 8 : Nat) : Int))).length : Int) else 0
def ky (c : XCategory) (o : List Int) : List Int := arL 0 64 (nowF c o)
noncomputable def fA (c : XCategory) (l : List Int) (s : SzS) : SzS :=
  if 0 < s.1.length ∧ ky c l = arL 0 64 s.2 then (s.1 ++ [l], s.2) else if s.1 = [] then ([l], nowF c l) else if llt (ky c l) (arL 0 64 s.2) = true then ([l], nowF c l) else s
theorem leastSizes_1_eq (h : Shp c) (ho : Ord c l) {v : Nat → Int} (hv : ∀ x y : Int, 0 ≤ x → x < 8 → 0 ≤ y → y < 8 → v (x.toNat * 8 + y.toNat) = ((homL c x y).length : Int)) {s : SzS} (hs : s.1.length ≤ 10000) :
    M.iC_leastSizes_1 l v s.1 s.2 = some (fA c l s) := by
  have n0 := h.n0
  have n8 := h.n8
  have ol := ho.len n0
  obtain ⟨xo, xb⟩ := s
  dsimp only at *
  apply Ret.eq
  unfold M.iC_leastSizes_1
  refine Ret.acc (l.length : Int) (fun i a => ∀ q, a q = if q / 8 < i.toNat ∧ q % 8 < l.length then ((homL c (el l ((q / 8 : Nat) : Int)) (el l ((q % 8 : Nat) : Int))).length : Int) else 0) (by omega) (by omega) ?_ ?_ ?_
  · intro q
    rw [if_neg (by omega)]
  · rintro i a next i0 i1 ha hn
    dsimp only
    rw [if_pos (decide_eq_true i1)]
    have mi := ho.mem.1 (el_mem i0 i1)
    refine Ret.idx i0 i1 ?_
    refine Ret.acc (l.length : Int) (fun j b => ∀ q, b q = if (q / 8 < i.toNat ∨ q / 8 = i.toNat ∧ q % 8 < j.toNat) ∧ q % 8 < l.length then ((homL c (el l ((q / 8 : Nat) : Int)) (el l ((q % 8 : Nat) : Int))).length : Int) else 0) (by omega) (by omega) ?_ ?_ ?_
    · intro q
      rw [ha q]
      by_cases e : q / 8 < i.toNat ∧ q % 8 < l.length
      · rw [if_pos e, if_pos ⟨.inl e.1, e.2⟩]
      · rw [if_neg e, if_neg (by omega)]
    · rintro j b next2 j0 j1 hb hn2
      dsimp only
      rw [if_pos (decide_eq_true j1)]
      have mj := ho.mem.1 (el_mem j0 j1)
      refine Ret.idx j0 j1 (Ret.chk ⟨mi.1, by omega⟩ (Ret.chk ⟨mj.1, by omega⟩ (Ret.chk ⟨i0, by omega⟩ (Ret.chk ⟨j0, by omega⟩ (hn2 _ fun q => ?_)))))
      have e1 : v (0 + (el l i).toNat * 8 + (el l j).toNat * 1) = ((homL c (el l i) (el l j)).length : Int) := by
        rw [show 0 + (el l i).toNat * 8 + (el l j).toNat * 1 = (el l i).toNat * 8 + (el l j).toNat by omega]
        exact hv _ _ mi.1 (by omega) mj.1 (by omega)
      unfold upN
      rw [e1]
      by_cases e : q = 0 + i.toNat * 8 + j.toNat * 1
      · have a1 : q / 8 = i.toNat := by omega
        have a2 : q % 8 = j.toNat := by omega
        rw [if_pos e, if_pos (by omega), a1, a2, show ((i.toNat : Nat) : Int) = i by omega, show ((j.toNat : Nat) : Int) = j by omega]
      · rw [if_neg e, hb q]
        by_cases e2 : (q / 8 < i.toNat ∨ q / 8 = i.toNat ∧ q % 8 < j.toNat) ∧ q % 8 < l.length
        · rw [if_pos e2, if_pos (by omega)]
        · rw [if_neg e2, if_neg (by omega)]
    · rintro b next2 hb
      dsimp only
      rw [if_neg (by simp)]
      refine hn _ fun q => ?_
      rw [hb q]
      by_cases e2 : q / 8 < (i + 1).toNat ∧ q % 8 < l.length
      · rw [if_pos (by omega), if_pos e2]
      · rw [if_neg (by omega), if_neg e2]
  · rintro a next ha
    dsimp only
    have ea : a = nowF c l := funext fun q => by
      rw [ha q]
      unfold nowF
      rw [show ((l.length : Int)).toNat = l.length by omega]
    subst ea
    rw [if_neg (by simp)]
    have fAe : fA c l (xo, xb) = if 0 < xo.length ∧ ky c l = arL 0 64 xb then (xo ++ [l], xb) else if xo = [] then ([l], nowF c l) else if llt (ky c l) (arL 0 64 xb) = true then ([l], nowF c l) else (xo, xb) := rfl
    have cl : M.impl_clone l = some l := clone_eq (by unfold Small; omega)
    have heq : (arEq (nowF c l) xb 0 64 == true) = true ↔ ky c l = arL 0 64 xb := by
      unfold ky
      rw [beq_iff_eq, arEq_iff, arL_ext]
    have last : ¬ (0 < xo.length ∧ ky c l = arL 0 64 xb) → Ret (if ((xo.length : Int) == 0) = true then (M.impl_clone l).bind fun v21 => some (([v21] : List (List Int)), nowF c l)
        else (M.impl_lessSizes (nowF c l) xb).bind fun v22 => if v22 = true then (M.impl_clone l).bind fun v24 => some (([v24] : List (List Int)), nowF c l) else some (xo, xb)) (fun r => r = fA c l (xo, xb)) := fun hne => by
      rw [fAe, if_neg hne]
      refine Ret.ite (fun e => ?_) (fun e => ?_)
      · have e0 : (xo.length : Int) = 0 := eq_of_beq e
        have e : xo = [] := List.eq_nil_of_length_eq_zero (by omega)
        rw [if_pos e]
        exact Ret.call cl (Ret.some rfl)
      · have e : xo ≠ [] := fun h => e (by rw [h]; rfl)
        rw [if_neg e]
        refine Ret.call (lessSizes_eq _ _) (Ret.ite (fun h => ?_) (fun h => Ret.some ?_))
        · refine Ret.call cl (Ret.some ?_)
          rw [if_pos (show llt (ky c l) (arL 0 64 xb) = true from h)]
        · rw [if_neg (show ¬ llt (ky c l) (arL 0 64 xb) = true from h)]
    refine Ret.join (Ret.ite (fun h1 => Ret.ite (fun h2 => ?_) (fun h2 => ?_)) (fun h1 => ?_))
    · have h1 := of_decide_eq_true h1
      refine Ret.call cl (Ret.chk (by unfold lim; omega) (Ret.some ?_))
      rw [fAe, if_pos ⟨by omega, heq.1 h2⟩]
    · exact last fun h => h2 (heq.2 h.2)
    · exact last fun h => h1 (decide_eq_true (by have := h.1; omega))
def InvA (c : XCategory) (L : List (List Int)) (s : SzS) : Prop :=
  (L = [] → s.1 = []) ∧ (L ≠ [] → s.1 ≠ [] ∧ (∀ o ∈ s.1, o ∈ L ∧ ky c o = arL 0 64 s.2) ∧ (∀ e ∈ L, llt (ky c e) (arL 0 64 s.2) = false) ∧ ∀ e ∈ L, ky c e = arL 0 64 s.2 → e ∈ s.1)
theorem InvA.step {L : List (List Int)} {s : SzS} (h : InvA c L s) (l : List Int) : InvA c (L ++ [l]) (fA c l s) := by
  refine ⟨fun e => by simp at e, fun _ => ?_⟩
  unfold fA
  by_cases hL : L = []
  · have hs := h.1 hL
    subst hL
    rw [if_neg (fun e => by rw [hs] at e; simp at e), if_pos hs]
    refine ⟨by simp, ?_, ?_, ?_⟩
    · intro o ho
      rw [List.mem_singleton.1 ho]
      exact ⟨by simp, rfl⟩
    · intro e he
      obtain rfl : e = l := by simpa using he
      exact llt_irrefl _
    · intro e he _
      simpa using he
  · obtain ⟨h1, h2, h3, h4⟩ := h.2 hL
    by_cases e : ky c l = arL 0 64 s.2
    · rw [if_pos ⟨List.length_pos_iff.2 h1, e⟩]
      refine ⟨by simp, ?_, ?_, ?_⟩
      · intro o ho
        rcases List.mem_append.1 ho with ho | ho
        · exact ⟨List.mem_append_left _ (h2 o ho).1, (h2 o ho).2⟩
        · rw [List.mem_singleton.1 ho]; exact ⟨by simp, e⟩
      · intro x hx
        rcases List.mem_append.1 hx with hx | hx
        · exact h3 x hx
        · rw [List.mem_singleton.1 hx]
          show llt (ky c l) (arL 0 64 s.2) = false
          rw [e]; exact llt_irrefl _
      · intro x hx ex
        rcases List.mem_append.1 hx with hx | hx
        · exact List.mem_append_left _ (h4 x hx ex)
        · exact List.mem_append_right _ hx
    · rw [if_neg (fun he => e he.2), if_neg h1]
      by_cases e2 : llt (ky c l) (arL 0 64 s.2) = true
      · rw [if_pos e2]
        refine ⟨by simp, ?_, ?_, ?_⟩
        · intro o ho
          rw [List.mem_singleton.1 ho]
          exact ⟨by simp, rfl⟩
        · intro x hx
          show llt (ky c x) (ky c l) = false
          rcases List.mem_append.1 hx with hx | hx
          · cases hxd : llt (ky c x) (ky c l) with
            | false => rfl
            | true => rw [← h3 x hx]; exact (llt_trans hxd e2).symm
          · rw [List.mem_singleton.1 hx]; exact llt_irrefl _
        · intro x hx ex
          rcases List.mem_append.1 hx with hx | hx
          · have ex : ky c x = ky c l := ex
            have := h3 x hx
            rw [ex, e2] at this; cases this
          · exact hx
      · rw [if_neg e2]
        refine ⟨h1, fun o ho => ⟨List.mem_append_left _ (h2 o ho).1, (h2 o ho).2⟩, ?_, ?_⟩
        · intro x hx
          rcases List.mem_append.1 hx with hx | hx
          · exact h3 x hx
          · rw [List.mem_singleton.1 hx]; simpa using e2
        · intro x hx ex
          rcases List.mem_append.1 hx with hx | hx
          · exact h4 x hx ex
          · rw [List.mem_singleton.1 hx] at ex; exact absurd ex e
theorem InvA.fold : ∀ (L' : List (List Int)) {L : List (List Int)} {s : SzS}, InvA c L s → InvA c (L ++ L') (L'.foldl (fun b l' => fA c l' b) s)
  | [], L, s, h => by rw [List.append_nil]; exact h
  | a :: L', L, s, h => by
    have := InvA.fold L' (h.step a)
    rw [List.append_assoc] at this
    exact this
theorem fA_len (l : List Int) (s : SzS) : (fA c l s).1.length ≤ s.1.length + 1 := by
  unfold fA
  split
  · rw [List.length_append]; simp
  · split
    · simp
    · split
      · simp
      · omega
def LeastO (c : XCategory) (o : List Int) : Prop := Ord c o ∧ ∀ e, Ord c e → llt (ky c e) (ky c o) = false
theorem leastSizes_r (h : Shp c) (hN : numC c ≤ 5000) : Ret (M.iC_leastSizes c) fun v => v ≠ [] ∧ v.length ≤ 10000 ∧ ∀ o, o ∈ v ↔ LeastO c o := by
  have n0 := h.n0
  have n8 := h.n8
  have lr : (rng c).length = c.Objects.toNat := by unfold rng; rw [tab_length]
  have hP1 := wP_pos (c := c) (pairs (rng c))
  have hT := wP_total (c := c) (o := rng c) (List.Perm.refl _)
  have hf : fac c.Objects.toNat ≤ 5000 := by
    have : fac c.Objects.toNat * 1 ≤ fac c.Objects.toNat * prodL ((pairs (rng c)).map (wP c)) := Nat.mul_le_mul_left _ hP1
    omega
  unfold M.iC_leastSizes
  refine Ret.bind (homSizes_r h) fun v hv => ?_
  refine Ret.call (numbers_eq n0 (by omega)) ?_
  show Ret ((M.impl_permutations_A v (rng c) [] (fun _ => (0 : Int))).bind _) _
  have key := perm_A (xh := v) (f := fA c) (fun l s => fA_len l s) c.Objects.toNat fuel (rng c) 0 (by omega) (by unfold fuel; omega) (by omega) hf (fun l' hl' s hs => leastSizes_1_eq h hl' hv hs) ([], fun _ => (0 : Int)) (by simp; omega)
  unfold M.impl_permutations_A M.impl_permutations_1_A
  rw [show (0 : Int) = ((0 : Nat) : Int) from rfl] at *
  dsimp only at key
  rw [key]
  simp only [Option.bind_some]
  refine Ret.some ?_
  have hmem : ∀ o, o ∈ visN c.Objects.toNat (rng c) 0 ↔ Ord c o := fun o => by
    have := mem_visN c.Objects.toNat [] (rng c) lr o
    rw [List.nil_append] at this
    rw [show (0 : Nat) = ([] : List Int).length from rfl, this]
    unfold Ord
    simp
  have hI := InvA.fold (c := c) (visN c.Objects.toNat (rng c) 0) (L := []) (s := ([], fun _ => (0 : Int))) ⟨fun _ => rfl, fun e => absurd rfl e⟩
  rw [List.nil_append] at hI
  have hne : visN c.Objects.toNat (rng c) 0 ≠ [] := fun e => by
    have := (hmem (rng c)).2 (List.Perm.refl _)
    rw [e] at this; cases this
  obtain ⟨h1, h2, h3, h4⟩ := hI.2 hne
  refine ⟨h1, ?_, fun o => ⟨fun ho => ?_, fun ho => ?_⟩⟩
  · have fl : ∀ (L : List (List Int)) (s : SzS), (L.foldl (fun b l' => fA c l' b) s).1.length ≤ s.1.length + L.length := by
      intro L
      induction L with
      | nil => intro s; simp
      | cons a L ih => intro s; rw [List.foldl_cons, List.length_cons]; have := ih (fA c a s); have := fA_len (c := c) a s; omega
    have := fl (visN c.Objects.toNat (rng c) 0) ([], fun _ => (0 : Int))
    rw [visN_len] at this
    refine Nat.le_trans this ?_
    simp only [List.length_nil]; omega
  · have a := h2 o ho
    refine ⟨(hmem o).1 a.1, fun e he => ?_⟩
    rw [a.2]
    exact h3 e ((hmem e).2 he)
  · obtain ⟨o1, ho1⟩ := List.exists_mem_of_ne_nil _ h1
    have a := h2 o1 ho1
    refine h4 o ((hmem o).2 ho.1) (llt_total (h3 o ((hmem o).2 ho.1)) ?_)
    rw [← a.2]
    exact ho.2 o1 ((hmem o1).1 a.1)
theorem pad_llt {n : Nat} (z Z : List Int) : ∀ (A B : List (List Int)), A.length = B.length → (∀ r ∈ A, r.length = n) → (∀ r ∈ B, r.length = n) →
    llt ((A.map fun r => r ++ z).flatten ++ Z) ((B.map fun r => r ++ z).flatten ++ Z) = llt A.flatten B.flatten
  | [], [], _, _, _ => llt_irrefl _
  | [], _ :: _, h, _, _ => by simp at h
  | _ :: _, [], h, _, _ => by simp at h
  | a :: A, b :: B, h, hA, hB => by
    have ha := hA a (List.mem_cons_self ..)
    have hb := hB b (List.mem_cons_self ..)
    have ih := pad_llt z Z A B (by simpa using h) (fun r hr => hA r (List.mem_cons_of_mem _ hr)) (fun r hr => hB r (List.mem_cons_of_mem _ hr))
    simp only [List.map_cons, List.flatten_cons, List.append_assoc]
    have e1 := llt_app (a := a) (a' := b) (b := z ++ ((A.map fun r => r ++ z).flatten ++ Z)) (b' := z ++ ((B.map fun r => r ++ z).flatten ++ Z)) (by omega)
    have e2 := llt_app (a := z) (a' := z) (b := (A.map fun r => r ++ z).flatten ++ Z) (b' := (B.map fun r => r ++ z).flatten ++ Z) rfl
    have e3 := llt_app (a := a) (a' := b) (b := A.flatten) (b' := B.flatten) (by omega)
    rw [if_pos rfl] at e2
    rw [e1, e2, e3, ih]
def RRs (c : XCategory) (o : List Int) : List (List Int) := o.map fun x => o.map fun y => ((homL c x y).length : Int)
theorem szL_flat (c : XCategory) (o : List Int) : szL c o = (RRs c o).flatten := by
  unfold szL pairs RRs
  rw [List.map_flatMap, List.flatMap_def]
  congr 1
  apply List.map_congr_left
  intro x _
  rw [List.map_map]; rfl
theorem ky_rows (hn : o.length ≤ 8) : ∀ (s : List Int) (i : Nat), o.drop i = s → i ≤ o.length →
    arL (8 * i) (8 * (8 - i)) (nowF c o) = (((s.map fun x => o.map fun y => ((homL c x y).length : Int)).map fun r => r ++ List.replicate (8 - o.length) 0)).flatten ++ List.replicate (8 * (8 - o.length)) 0
  | [], i, hi, hil => by
    have : o.length ≤ i := List.drop_eq_nil_iff.1 hi
    obtain rfl : i = o.length := by omega
    rw [arL_const _ _ fun q h1 h2 => by unfold nowF; rw [if_neg (by omega)]]; rfl
  | x :: s, i, hi, hil => by
    have hlt : i < o.length := by
      rcases Nat.lt_or_ge i o.length with h | h
      · exact h
      · rw [List.drop_eq_nil_of_le h] at hi; cases hi
    have hd : o.drop i = el o (i : Int) :: o.drop (i + 1) := by
      have := drop_el (l := o) (i := (i : Int)) (by omega) (by omega)
      rw [show ((i : Int)).toNat = i by omega, show ((i : Int) + 1).toNat = i + 1 by omega] at this
      exact this
    rw [hi] at hd
    obtain ⟨rfl, hs⟩ := List.cons.inj hd
    have ih := ky_rows hn s (i + 1) hs.symm (by omega)
    rw [show 8 * (8 - i) = o.length + (8 - o.length) + 8 * (8 - (i + 1)) by omega, arL_add, arL_add, show 8 * i + (o.length + (8 - o.length)) = 8 * (i + 1) by omega, ih]
    rw [arL_map (g := fun y => ((homL c (el o (i : Int)) y).length : Int)) o (8 * i) fun j hj => by
      unfold nowF
      rw [show (8 * i + j) / 8 = i by omega, show (8 * i + j) % 8 = j by omega, if_pos ⟨hlt, hj⟩]
      rfl]
    rw [arL_const _ (8 * i + o.length) fun q h1 h2 => by unfold nowF; rw [if_neg (by omega)]]
    simp only [List.map_cons, List.flatten_cons, List.append_assoc]
theorem ky_llt (h : Shp c) {o o' : List Int} (h1 : Ord c o) (h2 : Ord c o') : llt (ky c o) (ky c o') = llt (szL c o) (szL c o') := by
  have n8 := h.n8
  have l1 := h1.len h.n0
  have l2 := h2.len h.n0
  have e1 := ky_rows (c := c) (o := o) (by omega) o 0 rfl (by omega)
  have e2 := ky_rows (c := c) (o := o') (by omega) o' 0 rfl (by omega)
  have el12 : o'.length = o.length := by omega
  have f1 : ky c o = _ := e1
  have f2 : ky c o' = _ := e2
  rw [f1, f2, szL_flat, szL_flat, el12]
  exact pad_llt (n := o.length) _ _ (RRs c o) (RRs c o') (by unfold RRs; rw [List.length_map, List.length_map, el12]) (fun r hr => by
    unfold RRs at hr
    obtain ⟨x, _, rfl⟩ := List.mem_map.1 hr
    rw [List.length_map]) (fun r hr => by
    unfold RRs at hr
    obtain ⟨x, _, rfl⟩ := List.mem_map.1 hr
    rw [List.length_map, el12])
end Go.Gx
namespace Go.Gx
open Classical
set_option maxHeartbeats 1000000
variable {c : XCategory} {o o' l l' : List Int}
theorem flatten_inj {n : Nat} : ∀ {A B : List (List Int)}, A.length = B.length → (∀ r ∈ A, r.length = n) → (∀ r ∈ B, r.length = n) → A.flatten = B.flatten → A = B
  | [], [], _, _, _, _ => rfl
  | [], _ :: _, h, _, _, _ => by simp at h
  | _ :: _, [], h, _, _, _ => by simp at h
  | a :: A, b :: B, h, hA, hB, e => by
    rw [List.flatten_cons, List.flatten_cons] at e
    obtain ⟨rfl, e2⟩ := List.append_inj e (by rw [hA a (List.mem_cons_self ..), hB b (List.mem_cons_self ..)])
    rw [flatten_inj (by simpa using h) (fun r hr => hA r (List.mem_cons_of_mem _ hr)) (fun r hr => hB r (List.mem_cons_of_mem _ hr)) e2]
theorem cand_map (h : Shp c) (F : Int → Int) (G : Int × Int → Int) (hF : ∀ f, 0 ≤ f → f < (c.From.length : Int) → F f = G (el c.From f, el c.To f)) : ∀ (ps : List (Int × Int)) (l : List Int), (∀ p ∈ ps, 0 ≤ p.1 ∧ p.1 < c.Objects) → CandP c ps l →
    l.map F = ps.flatMap fun p => List.replicate (homL c p.1 p.2).length (G p)
  | [], l, _, hc => by obtain rfl : l = [] := hc
                       rfl
  | p :: ps, l, hp, hc => by
    obtain ⟨b, t, rfl, hg, ht⟩ := hc
    have hp1 := hp p (List.mem_cons_self ..)
    have hb := hg.perm h hp1.1 hp1.2
    rw [List.map_append, List.flatMap_cons, cand_map h F G hF ps t (fun q hq => hp q (List.mem_cons_of_mem _ hq)) ht]
    congr 1
    rw [← hb.length_eq, List.eq_replicate_iff]
    refine ⟨by rw [List.length_map], fun x hx => ?_⟩
    obtain ⟨f, hf, rfl⟩ := List.mem_map.1 hx
    obtain ⟨f0, f1, h1, h2⟩ := homL_mem.1 (hb.mem_iff.1 hf)
    rw [hF f f0 f1, h1, h2]
theorem pairs_map (f : Int → Int) (l : List Int) : pairs (l.map f) = (pairs l).map fun q => (f q.1, f q.2) := by
  unfold pairs
  rw [List.map_flatMap, List.flatMap_map]
  congr 1
  funext x
  rw [List.map_map, List.map_map]; rfl
theorem pairs_rng (h : Cd c o l) : pairs o = (pairs (rng c)).map fun q => (el o q.1, el o q.2) := by
  rw [← pairs_map]
  congr 1
  have ol := h.ol
  unfold rng tab
  rw [List.map_map]
  conv => lhs; rw [← tab_el o, ol]
  rfl
theorem rng_in (n0 : 0 ≤ c.Objects) {q : Int × Int} (hq : q ∈ pairs (rng c)) : 0 ≤ q.1 ∧ q.1 < c.Objects ∧ 0 ≤ q.2 ∧ q.2 < c.Objects := by
  have hr : Ord c (rng c) := List.Perm.refl _
  have := mem_pairs.1 hq
  have h1 := hr.mem.1 this.1
  have h2 := hr.mem.1 this.2
  have := n0
  exact ⟨h1.1, h1.2, h2.1, h2.2⟩
theorem ends_eqs (h : Cd c o l) (h' : Cd c o' l') (es : szL c o = szL c o') : (RN c o l).From = (RN c o' l').From ∧ (RN c o l).To = (RN c o' l').To := by
  have hS := h.shp
  have n0 := hS.n0
  have e := es
  unfold szL at e
  rw [pairs_rng h, pairs_rng h', List.map_map, List.map_map, List.map_inj_left] at e
  have hlen : ∀ q ∈ pairs (rng c), (homL c (el o q.1) (el o q.2)).length = (homL c (el o' q.1) (el o' q.2)).length := fun q hq => by
    have := e q hq
    simp only [Function.comp] at this
    omega
  have key : ∀ {o l : List Int}, Cd c o l → (RN c o l).From = ((pairs (rng c)).flatMap fun q => List.replicate (homL c (el o q.1) (el o q.2)).length q.1) ∧ (RN c o l).To = ((pairs (rng c)).flatMap fun q => List.replicate (homL c (el o q.1) (el o q.2)).length q.2) := fun {o l} h => by
    have ll := h.ll
    have ol := h.ol
    have hp : ∀ p ∈ pairs o, 0 ≤ p.1 ∧ p.1 < c.Objects := fun p hp => h.ord.mem.1 (mem_pairs.1 hp).1
    have f1 : (RN c o l).From = l.map fun f => posI o (el c.From f) := by
      show tab (c.From.length : Int) (fun k => posI o (el c.From (el l k))) = _
      conv => rhs; rw [← tab_el l, ll]
      unfold tab
      rw [List.map_map]; rfl
    have f2 : (RN c o l).To = l.map fun f => posI o (el c.To f) := by
      show tab (c.From.length : Int) (fun k => posI o (el c.To (el l k))) = _
      conv => rhs; rw [← tab_el l, ll]
      unfold tab
      rw [List.map_map]; rfl
    rw [f1, f2, cand_map hS _ (fun p => posI o p.1) (fun _ _ _ => rfl) _ l hp h.cand, cand_map hS _ (fun p => posI o p.2) (fun _ _ _ => rfl) _ l hp h.cand, pairs_rng h, List.flatMap_map, List.flatMap_map]
    constructor
    · rw [List.flatMap_def, List.flatMap_def]
      congr 1
      apply List.map_congr_left
      intro q hq
      have := rng_in n0 hq
      dsimp only
      rw [posI_el h.bo this.1 (by omega)]
    · rw [List.flatMap_def, List.flatMap_def]
      congr 1
      apply List.map_congr_left
      intro q hq
      have := rng_in n0 hq
      dsimp only
      rw [posI_el h.bo this.2.2.1 (by omega)]
  obtain ⟨a1, a2⟩ := key h
  obtain ⟨b1, b2⟩ := key h'
  rw [a1, a2, b1, b2]
  constructor
  · rw [List.flatMap_def, List.flatMap_def]
    congr 1
    apply List.map_congr_left
    intro q hq
    rw [hlen q hq]
  · rw [List.flatMap_def, List.flatMap_def]
    congr 1
    apply List.map_congr_left
    intro q hq
    rw [hlen q hq]
theorem RN_unique (hN : NoFault c) (h : Cd c o l) (h' : Cd c o' l') (es : szL c o = szL c o') (ec : (RN c o l).Composites.flatten = (RN c o' l').Composites.flatten) : RN c o l = RN c o' l' := by
  have hS := h.shp
  have n0 := hS.n0
  obtain ⟨eF, eT⟩ := ends_eqs h h' es
  have eC : (RN c o l).Composites = (RN c o' l').Composites := by
    have r1 := RN_row c o l
    have r2 := RN_row c o' l'
    have c1 := RN_comp c o l
    have c2 := RN_comp c o' l'
    exact flatten_inj (n := c.From.length) (by omega) (fun r hr => by have := r1 r hr; omega) (fun r hr => by have := r2 r hr; omega) ec
  have eI : (RN c o l).Identity = (RN c o' l').Identity := by
    show tab c.Objects (fun i => posI l (el c.Identity (el o i))) = tab c.Objects fun i => posI l' (el c.Identity (el o' i))
    apply tab_congr
    intro i i0 i1
    have ll := h.ll
    have ll' := h'.ll
    have ol := h.ol
    have ol' := h'.ol
    have x := h.bo.inr i i0 (by omega)
    have x' := h'.bo.inr i i0 (by omega)
    have d := hS.id_in (el o i) x.1 (by omega)
    have d' := hS.id_in (el o' i) x'.1 (by omega)
    have p := posI_spec h.bl d.1 (by omega)
    have p' := posI_spec h'.bl d'.1 (by omega)
    generalize he : posI l (el c.Identity (el o i)) = e at *
    generalize he' : posI l' (el c.Identity (el o' i)) = e' at *
    have F1 : ∀ k, 0 ≤ k → k < (c.From.length : Int) → posI o (el c.From (el l k)) = posI o' (el c.From (el l' k)) := fun k k0 k1 => by
      have a1 : el (RN c o l).From k = posI o (el c.From (el l k)) := el_tab (f := fun k => posI o (el c.From (el l k))) k0 k1
      have a2 : el (RN c o' l').From k = posI o' (el c.From (el l' k)) := el_tab (f := fun k => posI o' (el c.From (el l' k))) k0 k1
      rw [← a1, ← a2, eF]
    have T1 : ∀ k, 0 ≤ k → k < (c.From.length : Int) → posI o (el c.To (el l k)) = posI o' (el c.To (el l' k)) := fun k k0 k1 => by
      have a1 : el (RN c o l).To k = posI o (el c.To (el l k)) := el_tab (f := fun k => posI o (el c.To (el l k))) k0 k1
      have a2 : el (RN c o' l').To k = posI o' (el c.To (el l' k)) := el_tab (f := fun k => posI o' (el c.To (el l' k))) k0 k1
      rw [← a1, ← a2, eT]
    have g := h.bl.inr e' p'.1 (by omega)
    have g' := h'.bl.inr e p.1 (by omega)
    have q1 : el c.From (el l e') = el o i := by
      have := F1 e' p'.1 (by omega)
      rw [p'.2.2, hS.id_from _ x'.1 (by omega), posI_el h'.bo i0 (by omega)] at this
      have b := hS.from_in (el l e') g.1 (by omega)
      have := (posI_spec h.bo b.1 (by omega)).2.2
      rw [← this]
      congr 1
    have q2 : el c.To (el l' e) = el o' i := by
      have := T1 e p.1 (by omega)
      rw [p.2.2, hS.id_to _ x.1 (by omega), posI_el h.bo i0 (by omega)] at this
      have b := hS.to_in (el l' e) g'.1 (by omega)
      have hh := (posI_spec h'.bo b.1 (by omega)).2.2
      rw [← hh]
      congr 1
      exact this.symm
    have v1 : el (el (RN c o l).Composites e) e' = e' := by
      show el (el (tab (c.From.length : Int) fun k => tab (c.From.length : Int) fun j => if el c.To (el l k) = el c.From (el l j) then posI l (cmp c (el l k) (el l j)) else -1) e) e' = e'
      rw [el_tab p.1 (by omega), el_tab p'.1 (by omega), p.2.2, hS.id_to _ x.1 (by omega), if_pos q1.symm]
      have := (hN.1 (el l e') g.1 (by omega)).1
      rw [q1] at this
      rw [this]
      exact posI_el h.bl p'.1 (by omega)
    have v2 : el (el (RN c o' l').Composites e) e' = e := by
      show el (el (tab (c.From.length : Int) fun k => tab (c.From.length : Int) fun j => if el c.To (el l' k) = el c.From (el l' j) then posI l' (cmp c (el l' k) (el l' j)) else -1) e) e' = e
      rw [el_tab p.1 (by omega), el_tab p'.1 (by omega), p'.2.2, hS.id_from _ x'.1 (by omega), if_pos q2]
      have := (hN.1 (el l' e) g'.1 (by omega)).2
      rw [q2] at this
      rw [this]
      exact posI_el h'.bl p.1 (by omega)
    rw [← v2, ← eC, v1]
  show (⟨_, _, _, _, _⟩ : XCategory) = ⟨_, _, _, _, _⟩
  have eta : ∀ d : XCategory, d = ⟨d.Objects, d.From, d.To, d.Identity, d.Composites⟩ := fun d => rfl
  exact (eta (RN c o l)).trans (by rw [eF, eT, eC, eI]; rfl)
theorem RN_small (h : Cd c o l) : SmallC (RN c o l) := by
  have hS := h.shp
  have m40 := hS.m40
  have n0 := hS.n0
  have n8 := hS.n8
  have a := RN_from c o l
  have b := RN_to c o l
  have d := RN_comp c o l
  have r := RN_row c o l
  have e : ((RN c o l).Identity.length : Int) = c.Objects := by
    show ((tab c.Objects fun i => posI l (el c.Identity (el o i))).length : Int) = _
    rw [tab_length]; omega
  exact ⟨by unfold Small; omega, by unfold Small; omega, by unfold Small; omega, by unfold Small; omega, fun x hx => by have := r x hx; unfold Small; omega⟩
theorem mem_candS (h : Shp c) {p : List Int × List Int} : p ∈ candS c ↔ Cd c p.1 p.2 := by
  unfold candS
  rw [List.mem_flatMap]
  constructor
  · rintro ⟨o, ho, hp⟩
    unfold spL at hp
    obtain ⟨t, ht, rfl⟩ := List.mem_map.1 hp
    exact cd_of h ((mem_ordR h.n0).1 ho) (mem_GG.1 ht)
  · intro hc
    refine ⟨p.1, (mem_ordR h.n0).2 hc.ord, ?_⟩
    unfold spL
    exact List.mem_map.2 ⟨p.2, mem_GG.2 hc.cand, rfl⟩
theorem leastForm_r (h : Shp c) (hN : numC c ≤ 5000) : Ret (M.iC_leastForm c) fun r => ∃ o l, LeastO c o ∧ Cd c o l ∧ r = RN c o l ∧ ∀ o' l', LeastO c o' → Cd c o' l' → llt (keyI (RN c o' l')) (keyI (RN c o l)) = false := by
  unfold M.iC_leastForm
  refine Ret.bind (leastSizes_r h hN) fun V hV => ?_
  obtain ⟨hne, hlen, hmem⟩ := hV
  refine Ret.acc (V.length : Int) (fun i b => b = ((V.take i.toNat).flatMap (visL c)).foldl (lstep keyI) none ∧ OkB c b) (by omega) (by omega) ⟨rfl, fun d e => by cases e⟩ ?_ ?_
  · rintro i b next i0 i1 ⟨rfl, hb⟩ hn
    dsimp only
    rw [if_pos (decide_eq_true i1)]
    have ho := ((hmem _).1 (el_mem i0 i1)).1
    refine Ret.idx i0 i1 (Ret.call (forms_eq h ho hb) (hn _ ⟨?_, ?_⟩))
    · rw [take_succ_el i0 i1, List.flatMap_append, List.foldl_append]; simp
    · refine foldP (f := fun d b => lstep keyI b d) (P := OkB c) (fun d hd b hb => ?_) hb
      obtain ⟨t, _, rfl⟩ := (mem_visL h).1 hd
      exact (leastForm_1_eq h.m40 hb).2
  · rintro b next ⟨rfl, hb⟩
    dsimp only
    rw [if_neg (by simp)]
    rw [show ((V.length : Int)).toNat = V.length by omega, List.take_length]
    have hall : ∀ d, d ∈ V.flatMap (visL c) ↔ ∃ o l, LeastO c o ∧ Cd c o l ∧ d = RN c o l := fun d => by
      rw [List.mem_flatMap]
      constructor
      · rintro ⟨o, ho, hd⟩
        obtain ⟨t, ht, rfl⟩ := (mem_visL h).1 hd
        have hl := (hmem o).1 ho
        exact ⟨o, t, hl, cd_of h hl.1 ht, rfl⟩
      · rintro ⟨o, l, ho, hc, rfl⟩
        exact ⟨o, (hmem o).2 ho, (mem_visL h).2 ⟨l, hc.cand, rfl⟩⟩
    have hne2 : V.flatMap (visL c) ≠ [] := fun e => by
      obtain ⟨o, ho⟩ := List.exists_mem_of_ne_nil _ hne
      have hl := (hmem o).1 ho
      obtain ⟨t, ht⟩ := List.exists_mem_of_ne_nil _ (GG_ne h hl.1)
      have := (hall _).2 ⟨o, t, hl, cd_of h hl.1 (mem_GG.1 ht), rfl⟩
      rw [e] at this; cases this
    obtain ⟨d, hd, hdm, hmin⟩ := lfold_none (key := keyI) hne2
    rw [hd]
    obtain ⟨o, l, ho, hc, rfl⟩ := (hall _).1 hdm
    rw [if_neg (by simp)]
    refine Ret.call (copy_eq (RN_small hc)) (Ret.some ⟨o, l, ho, hc, rfl, fun o' l' ho' hc' => hmin _ ((hall _).2 ⟨o', l', ho', hc', rfl⟩)⟩)
theorem least_same (hc : IsCat c) (hN : numC c ≤ 5000) : ∃ r, SmallC r ∧ M.spec_l10Least c = some r ∧ M.iC_leastForm c = some r := by
  have h := hc.1.shp
  obtain ⟨r, e1, ⟨o1, l1⟩, hm1, rfl, hmin1⟩ := l10Least_r h hN
  obtain ⟨r2, e2, o2, l2, ho2, hc2, rfl, hmin2⟩ := leastForm_r h hN
  have hc1 := (mem_candS h).1 hm1
  dsimp only at hc1 hmin1 e1
  have lsz : ∀ {o o' : List Int}, Ord c o → Ord c o' → (szL c o).length = (szL c o').length := fun {o o'} a b => by
    unfold szL
    have := a.len h.n0
    have := b.len h.n0
    rw [List.length_map, List.length_map, pairs_len, pairs_len, show o.length = o'.length by omega]
  have hmin : ∀ o' l', Cd c o' l' → llt (mkC c o' l') (mkC c o2 l2) = false := fun o' l' h' => by
    unfold mkC
    rw [llt_app (lsz h'.ord hc2.ord)]
    split
    · rename_i e
      refine hmin2 o' l' ⟨h'.ord, fun x hx => ?_⟩ h'
      have := ho2.2 x hx
      rw [ky_llt h hx hc2.ord] at this
      rw [ky_llt h hx h'.ord, e]; exact this
    · have := ho2.2 o' h'.ord
      rw [ky_llt h h'.ord hc2.ord] at this
      exact this
  have hcode : mkC c o1 l1 = mkC c o2 l2 := llt_total (hmin o1 l1 hc1) (hmin1 (o2, l2) ((mem_candS h).2 hc2))
  unfold mkC at hcode
  obtain ⟨es, ec⟩ := List.append_inj hcode (lsz hc1.ord hc2.ord)
  have := RN_unique hc.2 hc1 hc2 es ec
  refine ⟨RN c o1 l1, RN_small hc1, e1, ?_⟩
  rw [this]; exact e2
theorem LeastForm_both (sc : SmallC c) : ∃ g w, SmallC g ∧ M.spec_LeastForm c = some (g, w) ∧ M.impl_LeastForm c = some (g, w) := by
  have z : SmallC ⟨0, [], [], [], []⟩ := zeroC_small
  unfold M.spec_LeastForm M.impl_LeastForm M.spec_CountNumberings
  rw [l02Is_eq sc, isCategory_eq sc]
  simp only [Option.bind_some, decide_eq_true_eq]
  by_cases hc : IsCat c
  · have h := hc.1.shp
    rw [if_pos hc, if_pos hc]
    obtain ⟨n1, e1, r1⟩ := l10Count_r h
    obtain ⟨n2, e2, r2⟩ := numberings_r h
    rw [e1, e2]
    simp only [Option.bind_some]
    by_cases hN : numC c ≤ 5000
    · have a1 : ¬ n1 > 5000 := by unfold Rel at r1; omega
      have a2 : ¬ n2 > 5000 := by unfold Rel1 at r2; omega
      rw [if_neg a1, if_neg a2]
      obtain ⟨r, hr, f1, f2⟩ := least_same hc hN
      refine ⟨r, 0, hr, ?_, ?_⟩
      · simp only [Option.bind_some, bne_self_eq_false, Bool.false_eq_true, if_false]
        rw [f1]; rfl
      · rw [f2]; rfl
    · have a1 : n1 > 5000 := by unfold Rel at r1; omega
      have a2 : n2 > 5000 := by unfold Rel1 at r2; omega
      rw [if_pos a1, if_pos a2]
      exact ⟨_, 3, z, rfl, rfl⟩
  · rw [if_neg hc, if_neg hc]
    exact ⟨_, 1, z, rfl, rfl⟩
theorem law_LeastForm {a0 : XCategory} (h0 : R.XCategory a0) : M.laws_FnExactLeastForm a0 = some true := by
  unfold M.laws_FnExactLeastForm
  obtain ⟨v0, e0, hv0⟩ := szCategory_r (n := 1048576) (by decide) (by decide) (fitsC h0)
  rw [e0, Option.bind_some]
  rcases hv0 with ⟨z0, _⟩ | ⟨l0, u0, s0⟩
  · rw [if_pos (decide_eq_true z0)]
  · rw [if_neg (fun h => absurd (of_decide_eq_true h) (by omega))]
    rw [toCategory_eq s0, Option.bind_some]
    obtain ⟨g0, w, hg0, es, ei⟩ := LeastForm_both s0
    rw [es, ei]
    simp only [Option.bind_some]
    rw [eqCategory_refl hg0, eqCategory_refl s0]
    obtain ⟨n0, x0, p0, q0, c0, d0, _⟩ := mh_C s0 1 (by omega) (by omega)
    obtain ⟨n1, x1, p1, q1, c1, d1, _⟩ := mh_C hg0 1 (by omega) (by omega)
    simp only [Option.bind_some, bne_self_eq_false, Bool.false_eq_true, if_false, if_true, decide_eq_true_eq, c0, c1, d1]
    rw [if_neg (by omega), if_neg (by omega)]
end Go.Gx
