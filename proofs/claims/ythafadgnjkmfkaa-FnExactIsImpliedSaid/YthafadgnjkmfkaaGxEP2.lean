/- Laid together: part 2. -/
import Derived.Test.YthafadgnjkmfkaaGxEP1
/- Plain laws: queries: the classes by joining pairs. -/
namespace Go.Gx
open Classical
set_option maxHeartbeats 1000000

variable {c : XCategory} {V : List Int} {q : XQuery}
theorem mgetQ {κ β : Type} [DecidableEq κ] {k k' : κ} {v : β} : ∀ m : List (κ × β), mget k' (mput k v m) = if k' = k then some v else mget k' m
  | [] => by simp [mput, mget]
  | e :: m => by
    have ih := mgetQ (k := k) (k' := k') (v := v) m
    unfold mput
    by_cases h : k = e.1
    · rw [if_pos h]
      unfold mget
      by_cases h' : k' = k
      · simp [h']
      · rw [if_neg h', if_neg h', if_neg (by rw [← h]; exact h')]
    · rw [if_neg h]
      unfold mget
      by_cases h' : k' = e.1
      · rw [if_pos h', if_pos h', if_neg (by rw [h']; exact fun x => h x.symm)]
      · rw [if_neg h', if_neg h', ih]
theorem filE {α : Type} [Inhabited α] (p : α → Bool) (l : List α) : (fil (l.length : Int) fun a => p (el l a)).map (el l) = l.filter p := by
  have h : ∀ n : Nat, n ≤ l.length → (fil (n : Int) fun a => p (el l a)).map (el l) = (l.take n).filter p := by
    intro n
    induction n with
    | zero => intro _; simp
    | succ n ih =>
      intro hn
      have t := take_succ_el (l := l) (i := (n : Int)) (by omega) (by omega)
      rw [show ((n : Int) + 1).toNat = n + 1 by omega, show ((n : Int)).toNat = n by omega] at t
      push_cast
      rw [fil_succ _ (by omega), List.map_append, ih (by omega), t, List.filter_append]
      congr 1
      by_cases e : p (el l (n : Int)) = true
      · rw [if_pos e, List.filter_cons, if_pos e]; rfl
      · rw [if_neg e, List.filter_cons, if_neg e]; rfl
  have := h l.length (Nat.le_refl _)
  rwa [List.take_length] at this
theorem map_tab {α β : Type} (n : Int) (f : Int → α) (g : α → β) : (tab n f).map g = tab n fun i => g (f i) := by
  unfold tab
  rw [List.map_map]
  rfl

/-! ### the pairs -/
noncomputable def outL (c : XCategory) (x : Int) : List Int := fil (c.From.length : Int) fun s => el c.From s == x
noncomputable def PN (c : XCategory) (V : List Int) (n : Int) : List Ximpl_pair_int64 := (tab n fun i => (outL c (el V i)).map fun h => ⟨i, h⟩).flatten
noncomputable def PL (c : XCategory) (V : List Int) : List Ximpl_pair_int64 := PN c V (V.length : Int)
theorem outL_len (hc : Shp c) (x : Int) : ((outL c x).length : Int) ≤ 40 := by
  have := fil_length_le (c.From.length : Int) fun s => el c.From s == x
  have := hc.m40
  unfold outL; omega
theorem PN_len (hc : Shp c) {n : Int} (n0 : 0 ≤ n) : ((PN c V n).length : Int) ≤ n * 40 := flatI_len (fun i _ _ => by rw [List.length_map]; exact outL_len hc _) n0
theorem PL_len (hc : Shp c) (hv : (V.length : Int) ≤ 4) : ((PL c V).length : Int) ≤ 160 := by
  have := PN_len (V := V) hc (n := (V.length : Int)) (by omega)
  unfold PL; omega
theorem PL_mem {p : Ximpl_pair_int64} : p ∈ PL c V ↔ Elt c V p.first_ p.second_ := by
  unfold PL PN outL
  rw [memI]
  constructor
  · rintro ⟨i, i0, i1, hp⟩
    obtain ⟨h, hh, rfl⟩ := List.mem_map.1 hp
    have hh := fil_mem.1 hh
    exact ⟨i0, i1, hh.1, hh.2.1, beq_iff_eq.1 hh.2.2⟩
  · intro e
    exact ⟨p.first_, e.i0, e.i1, List.mem_map.2 ⟨p.second_, fil_mem.2 ⟨e.h0, e.h1, beq_iff_eq.2 e.fr⟩, rfl⟩⟩
theorem PL_pw (c : XCategory) (V : List Int) : (PL c V).Pairwise (· ≠ ·) := by
  refine pwI_flat (g := fun p => p.first_) (fun i => pwI_map (fil_nodup _ _) fun a b e => ?_) (fun i i0 i1 x hx => ?_)
  · injection e
  · obtain ⟨h, _, rfl⟩ := List.mem_map.1 hx; rfl
noncomputable abbrev Pa (c : XCategory) (V : List Int) (a : Int) : Ximpl_pair_int64 := el (PL c V) a
noncomputable def cda (c : XCategory) (V : List Int) (a : Int) : Int := cd (Pa c V a).first_ (Pa c V a).second_
theorem Pa_elt {a : Int} (a0 : 0 ≤ a) (a1 : a < ((PL c V).length : Int)) : Elt c V (Pa c V a).first_ (Pa c V a).second_ := PL_mem.1 (el_mem a0 a1)
/-- The index of a pair. -/
noncomputable def pix (c : XCategory) (V : List Int) (i h : Int) : Int := if e : ∃ a, 0 ≤ a ∧ a < ((PL c V).length : Int) ∧ el (PL c V) a = ⟨i, h⟩ then e.choose else 0
theorem pix_in {i h : Int} (e : Elt c V i h) : (0 ≤ pix c V i h ∧ pix c V i h < ((PL c V).length : Int)) ∧ Pa c V (pix c V i h) = ⟨i, h⟩ := by
  have hx : ∃ a, 0 ≤ a ∧ a < ((PL c V).length : Int) ∧ el (PL c V) a = ⟨i, h⟩ := mem_el (PL_mem.2 e)
  unfold pix
  rw [dif_pos hx]
  exact ⟨⟨hx.choose_spec.1, hx.choose_spec.2.1⟩, hx.choose_spec.2.2⟩
theorem pix_of {a : Int} (a0 : 0 ≤ a) (a1 : a < ((PL c V).length : Int)) : pix c V (Pa c V a).first_ (Pa c V a).second_ = a := by
  have h := pix_in (Pa_elt a0 a1)
  exact pwI_el (PL_pw c V) h.1.1 h.1.2 a0 a1 h.2

/-! ### the pairs over an object -/
noncomputable def ty (c : XCategory) (V : List Int) (y : Int) : Int → Bool := fun a => el c.To (Pa c V a).second_ == y
noncomputable def ixs (c : XCategory) (V : List Int) (y n : Int) : List Int := fil n (ty c V y)
theorem ixs_rows (c : XCategory) (V : List Int) (y : Int) : (ixs c V y ((PL c V).length : Int)).map (fun a => [(Pa c V a).first_, (Pa c V a).second_]) = prL c V y := by
  have h := filE (fun p : Ximpl_pair_int64 => el c.To p.second_ == y) (PL c V)
  have h2 : (ixs c V y ((PL c V).length : Int)).map (fun a => [(Pa c V a).first_, (Pa c V a).second_]) = ((PL c V).filter fun p => el c.To p.second_ == y).map fun p => [p.first_, p.second_] := by
    rw [← h, List.map_map]; rfl
  rw [h2]
  unfold PL PN prL prN
  rw [List.filter_flatten, List.map_flatten, map_tab, map_tab]
  congr 1
  apply tab_congr
  intro i i0 i1
  rw [List.filter_map, List.map_map]
  unfold outL homL
  rw [fil_filter]
  rfl
theorem ixs_len (c : XCategory) (V : List Int) (y : Int) : ((ixs c V y ((PL c V).length : Int)).length : Int) = szP c V y := by
  have := congrArg List.length (ixs_rows c V y)
  rw [List.length_map] at this
  unfold szP; omega
noncomputable abbrev ax (c : XCategory) (V : List Int) (y p : Int) : Int := el (ixs c V y ((PL c V).length : Int)) p
theorem ax_in {y p : Int} (p0 : 0 ≤ p) (p1 : p < szP c V y) : (0 ≤ ax c V y p ∧ ax c V y p < ((PL c V).length : Int)) ∧ (Pa c V (ax c V y p)).first_ = pv c V y p ∧ (Pa c V (ax c V y p)).second_ = ph c V y p ∧ cda c V (ax c V y p) = cdp c V y p := by
  have l := ixs_len c V y
  have hm := fil_mem.1 (show ax c V y p ∈ fil ((PL c V).length : Int) (ty c V y) from el_mem p0 (by rw [← l] at p1; exact p1))
  have hr : el ((ixs c V y ((PL c V).length : Int)).map (fun a => [(Pa c V a).first_, (Pa c V a).second_])) p = [(Pa c V (ax c V y p)).first_, (Pa c V (ax c V y p)).second_] := elM p0 (by rw [l]; exact p1)
  rw [ixs_rows] at hr
  have e1 : pv c V y p = (Pa c V (ax c V y p)).first_ := by unfold pv; rw [hr]; rfl
  have e2 : ph c V y p = (Pa c V (ax c V y p)).second_ := by unfold ph; rw [hr]; rfl
  refine ⟨⟨hm.1, hm.2.1⟩, e1.symm, e2.symm, ?_⟩
  unfold cda cdp
  rw [e1, e2]

/-! ### numbered -/
theorem numbered_r (hc : Shp c) (hv : (V.length : Int) ≤ 4) : Ret (M.impl_numbered_impl_pair_int64 (PL c V)) fun m => ∀ i h, Elt c V i h → mget (i, h) m = some (pix c V i h) := by
  have L := PL_len (V := V) hc hv
  unfold M.impl_numbered_impl_pair_int64
  refine Ret.acc ((PL c V).length : Int) (fun n m => ∀ a, 0 ≤ a → a < n → mget ((Pa c V a).first_, (Pa c V a).second_) m = some a) (by omega) (by omega) (fun a a0 a1 => by omega) ?_ ?_
  · intro n m next n0 n1 hm hn
    dsimp only
    rw [if_pos (decide_eq_true n1)]
    refine Ret.idx n0 n1 (hn _ fun a a0 a1 => ?_)
    rw [mgetQ]
    by_cases e : a = n
    · subst e; rw [if_pos rfl]
    · rw [if_neg fun z => e ?_]
      · exact hm a a0 (by omega)
      · have z := Prod.mk.inj z
        refine pwI_el (PL_pw c V) a0 (by omega) n0 n1 ?_
        show Pa c V a = Pa c V n
        have : ∀ p p' : Ximpl_pair_int64, p.first_ = p'.first_ → p.second_ = p'.second_ → p = p' := by rintro ⟨x, y⟩ ⟨x', y'⟩ h h'; dsimp only at h h'; rw [h, h']
        exact this _ _ z.1 z.2
  · intro m next hm
    dsimp only
    rw [if_neg (by simp)]
    refine Ret.some fun i h e => ?_
    have p := pix_in e
    have := hm _ p.1.1 p.1.2
    rwa [p.2] at this

/-! ### joined -/
structure JInv (c : XCategory) (q : XQuery) (j : List Int) (ρ : Int → Int) : Prop where
  uf : UF j ρ
  ln : (j.length : Int) = ((PL c q.Variables).length : Int)
  sd : ∀ a b, 0 ≤ a → a < ((PL c q.Variables).length : Int) → 0 ≤ b → b < ((PL c q.Variables).length : Int) → ρ a = ρ b → Cg c q (cda c q.Variables a) (cda c q.Variables b)
/-- The sides of condition t, moved along arrow k. -/
noncomputable def lsd (c : XCategory) (q : XQuery) (t k : Int) : Int := pix c q.Variables (el q.Left t).Variable (cmp c (el q.Left t).Arrow k)
noncomputable def rsd (c : XCategory) (q : XQuery) (t k : Int) : Int := pix c q.Variables (el q.Right t).Variable (cmp c (el q.Right t).Arrow k)
theorem sides (hq : Qok c q) {t k : Int} (t0 : 0 ≤ t) (t1 : t < (q.Left.length : Int)) (k0 : 0 ≤ k) (k1 : k < (c.From.length : Int)) (hk : el c.From k = el c.To (el q.Left t).Arrow) :
    Elt c q.Variables (el q.Left t).Variable (cmp c (el q.Left t).Arrow k) ∧ Elt c q.Variables (el q.Right t).Variable (cmp c (el q.Right t).Arrow k) ∧ Cg c q (cda c q.Variables (lsd c q t k)) (cda c q.Variables (rsd c q t k)) := by
  have hS := hq.cat.1.shp
  have m := hq.tm t t0 t1
  have a := (elt_move hS k0 k1 m.1.elt hk.symm).1
  have b := (elt_move hS k0 k1 m.2.1.elt (by rw [← m.2.2]; exact hk.symm)).1
  refine ⟨a, b, ?_⟩
  unfold cda lsd rsd
  rw [(pix_in a).2, (pix_in b).2]
  exact .of ⟨t, k, ⟨t0, t1⟩, ⟨k0, k1⟩, hk, rfl, rfl⟩
theorem join_c {j : List Int} {ρ : Int → Int} (h : UF j ρ) (sj : Small j) {x y : Int} (x0 : 0 ≤ x) (x1 : x < (j.length : Int)) (y0 : 0 ≤ y) (y1 : y < (j.length : Int)) :
    Ret (M.impl_joiner_join j x y) fun r => ∃ ρ', UF r.2 ρ' ∧ r.2.length = j.length ∧ ∀ a b, 0 ≤ a → a < (j.length : Int) → 0 ≤ b → b < (j.length : Int) → (ρ' a = ρ' b ↔ ρ a = ρ b ∨ (ρ a = ρ x ∧ ρ y = ρ b) ∨ (ρ a = ρ y ∧ ρ x = ρ b)) := by
  have ev : ∀ a b, Eqv (fun a b => ρ a = ρ b) a b ↔ ρ a = ρ b := fun a b => ⟨fun e => Eqv.into (f := ρ) (fun _ _ h => h) e, fun e => .of e⟩
  refine (join_r (P := fun a b => ρ a = ρ b) h sj (fun i j _ _ _ _ => (ev i j).symm) x0 x1 y0 y1).mono ?_
  rintro r ⟨ρ', u, l, k⟩
  refine ⟨ρ', u, l, fun a b a0 a1 b0 b1 => ?_⟩
  rw [k a b a0 a1 b0 b1, Eqv.add, ev, ev, ev, ev, ev]
theorem joined_r (hq : Qok c q) {m : List ((Int × Int) × Int)} (hm : ∀ i h, Elt c q.Variables i h → mget (i, h) m = some (pix c q.Variables i h)) {ρ' : Type} {Q : ρ' → Prop} {fin : (List Int) × Int → Option ρ'}
    (hfin : ∀ j ρ, JInv c q j ρ → (∀ t k, 0 ≤ t → t < (q.Left.length : Int) → 0 ≤ k → k < (c.From.length : Int) → el c.From k = el c.To (el q.Left t).Arrow → ρ (lsd c q t k) = ρ (rsd c q t k)) → Ret (fin (j, (q.Left.length : Int))) Q) :
    Ret (iter (fun (s17 : (List Int) × Int) next18 =>
        if decide (s17.2 < (q.Left.length : Int)) then
          (idx q.Left s17.2).bind fun y22 =>
          (idx q.Right s17.2).bind fun y23 =>
          (idx c.To y22.Arrow).bind fun y24 =>
          (M.impl_Category_outOf c y24).bind fun v25 =>
          iter (fun (s26 : (List Int) × Int) next27 =>
            if decide (s26.2 < (v25.length : Int)) then
              (idx v25 s26.2).bind fun y31 =>
              (M.impl_Category_then c y22.Arrow y31).bind fun v32 =>
              (M.impl_Category_then c y23.Arrow y31).bind fun v33 =>
              (M.impl_joiner_join s26.1 ((mget (y22.Variable, v32) m).getD 0) ((mget (y23.Variable, v33) m).getD 0)).bind fun v34 =>
              next27 (v34.2, IntKind.i64.wrap (s26.2 + 1))
            else
              next18 (s26.1, IntKind.i64.wrap (s17.2 + 1))) fuel (s17.1, 0)
        else
          fin s17) fuel ((tab ((PL c q.Variables).length : Int) fun x => x), 0)) Q := by
  have hS := hq.cat.1.shp
  have L := PL_len (V := q.Variables) hS hq.v4
  have l6 := hq.l6
  have lr := hq.lr
  have lto := hS.lto
  have m40 := hS.m40
  refine Ret.acc (q.Left.length : Int) (fun t j => ∃ ρ, JInv c q j ρ ∧ ∀ t' k, 0 ≤ t' → t' < t → 0 ≤ k → k < (c.From.length : Int) → el c.From k = el c.To (el q.Left t').Arrow → ρ (lsd c q t' k) = ρ (rsd c q t' k)) (by omega) (by omega) ?_ ?_ ?_
  · refine ⟨fun x => x, ⟨UF.start _, by rw [tab_length]; omega, fun a b a0 a1 b0 b1 e => ?_⟩, fun t' k t0 t1 => by omega⟩
    subst e; exact .refl _
  · rintro t j next t0 t1 ⟨ρ, hj, hd⟩ hn
    have tm := hq.tm t t0 t1
    dsimp only
    rw [if_pos (decide_eq_true t1)]
    refine Ret.idx t0 t1 (Ret.idx t0 (by omega) (Ret.idx tm.1.2.1.1 (by have := tm.1.2.1.2; omega) (Ret.call (show M.impl_Category_outOf c (el c.To (el q.Left t).Arrow) = some (outL c (el c.To (el q.Left t).Arrow)) from outOf_eq hS.small.s1 _) ?_)))
    have lo := outL_len hS (el c.To (el q.Left t).Arrow)
    refine Ret.acc ((outL c (el c.To (el q.Left t).Arrow)).length : Int) (fun n j => ∃ ρ, JInv c q j ρ ∧ (∀ t' k, 0 ≤ t' → t' < t → 0 ≤ k → k < (c.From.length : Int) → el c.From k = el c.To (el q.Left t').Arrow → ρ (lsd c q t' k) = ρ (rsd c q t' k)) ∧
      ∀ i, 0 ≤ i → i < n → ρ (lsd c q t (el (outL c (el c.To (el q.Left t).Arrow)) i)) = ρ (rsd c q t (el (outL c (el c.To (el q.Left t).Arrow)) i))) (by omega) (by omega) ⟨ρ, hj, hd, fun i i0 i1 => by omega⟩ ?_ ?_
    · rintro n j nx n0 n1 ⟨ρ, hj, hd, he⟩ hn2
      have hk := fil_mem.1 (show el (outL c (el c.To (el q.Left t).Arrow)) n ∈ fil (c.From.length : Int) fun s => el c.From s == el c.To (el q.Left t).Arrow from el_mem n0 n1)
      have hf := beq_iff_eq.1 hk.2.2
      have s := sides hq t0 t1 hk.1 hk.2.1 hf
      have p1 := pix_in s.1
      have p2 := pix_in s.2.1
      have ln := hj.ln
      dsimp only
      rw [if_pos (decide_eq_true n1)]
      refine Ret.idx n0 n1 (Ret.call (then_in hS tm.1.2.1 ⟨hk.1, hk.2.1⟩) (Ret.call (then_in hS tm.2.1.2.1 ⟨hk.1, hk.2.1⟩) ?_))
      rw [hm _ _ s.1, hm _ _ s.2.1]
      refine Ret.bind (join_c hj.uf (by unfold Small; omega) p1.1.1 (by rw [ln]; exact p1.1.2) p2.1.1 (by rw [ln]; exact p2.1.2)) ?_
      rintro ⟨_, j'⟩ ⟨ρ', u', l', k'⟩
      dsimp only at u' l' ⊢
      -- what was one stays one
      have up : ∀ a b, 0 ≤ a → a < (j.length : Int) → 0 ≤ b → b < (j.length : Int) → ρ a = ρ b → ρ' a = ρ' b := fun a b a0 a1 b0 b1 e => (k' a b a0 a1 b0 b1).2 (.inl e)
      refine hn2 _ ⟨ρ', ⟨u', by omega, fun a b a0 a1 b0 b1 e => ?_⟩, fun t' k x0 x1 y0 y1 z => ?_, fun i i0 i1 => ?_⟩
      · have q1 := pix_in s.1
        rcases (k' a b a0 (by omega) b0 (by omega)).1 e with e | ⟨e1, e2⟩ | ⟨e1, e2⟩
        · exact hj.sd a b a0 a1 b0 b1 e
        · exact (hj.sd _ _ a0 a1 p1.1.1 p1.1.2 e1).trans (.trans s.2.2 (hj.sd _ _ p2.1.1 p2.1.2 b0 b1 e2))
        · exact (hj.sd _ _ a0 a1 p2.1.1 p2.1.2 e1).trans (.trans (.symm s.2.2) (hj.sd _ _ p1.1.1 p1.1.2 b0 b1 e2))
      · have s' := sides hq x0 (by omega) y0 y1 z
        have a1 := pix_in s'.1
        have a2 := pix_in s'.2.1
        exact up _ _ a1.1.1 (by rw [ln]; exact a1.1.2) a2.1.1 (by rw [ln]; exact a2.1.2) (hd t' k x0 x1 y0 y1 z)
      · by_cases e : i = n
        · subst e
          exact (k' _ _ p1.1.1 (by rw [ln]; exact p1.1.2) p2.1.1 (by rw [ln]; exact p2.1.2)).2 (.inr (.inl ⟨rfl, rfl⟩))
        · have hi := fil_mem.1 (show el (outL c (el c.To (el q.Left t).Arrow)) i ∈ fil (c.From.length : Int) fun s => el c.From s == el c.To (el q.Left t).Arrow from el_mem i0 (show i < ((outL c (el c.To (el q.Left t).Arrow)).length : Int) by omega))
          have s' := sides hq t0 t1 hi.1 hi.2.1 (beq_iff_eq.1 hi.2.2)
          have a1 := pix_in s'.1
          have a2 := pix_in s'.2.1
          exact up _ _ a1.1.1 (by rw [ln]; exact a1.1.2) a2.1.1 (by rw [ln]; exact a2.1.2) (he i i0 (by omega))
    · rintro j nx ⟨ρ, hj, hd, he⟩
      dsimp only
      rw [if_neg (by simp)]
      refine hn _ ⟨ρ, hj, fun t' k x0 x1 y0 y1 z => ?_⟩
      by_cases e : t' = t
      · subst e
        have hm : k ∈ outL c (el c.To (el q.Left t').Arrow) := fil_mem.2 ⟨y0, y1, beq_iff_eq.2 z⟩
        obtain ⟨i, i0, i1, rfl⟩ := mem_el hm
        exact he i i0 i1
      · exact hd t' k x0 (by omega) y0 y1 z
  · rintro j next ⟨ρ, hj, hd⟩
    dsimp only
    rw [if_neg (by simp)]
    exact hfin j ρ hj hd

/-- The joined pairs are those that the congruence makes one. -/
theorem JInv.all (hq : Qok c q) {j : List Int} {ρ : Int → Int} (h : JInv c q j ρ) (hd : ∀ t k, 0 ≤ t → t < (q.Left.length : Int) → 0 ≤ k → k < (c.From.length : Int) → el c.From k = el c.To (el q.Left t).Arrow → ρ (lsd c q t k) = ρ (rsd c q t k))
    {a b : Int} (a0 : 0 ≤ a) (a1 : a < ((PL c q.Variables).length : Int)) (b0 : 0 ≤ b) (b1 : b < ((PL c q.Variables).length : Int)) : ρ a = ρ b ↔ Cg c q (cda c q.Variables a) (cda c q.Variables b) := by
  have hS := hq.cat.1.shp
  have m40 := hS.m40
  refine ⟨h.sd a b a0 a1 b0 b1, fun e => ?_⟩
  have hf := Eqv.into (f := fun e => ρ (pix c q.Variables (e / 64) (e % 64))) (fun x y hg => ?_) e
  · have at_ : ∀ a, 0 ≤ a → a < ((PL c q.Variables).length : Int) → pix c q.Variables (cda c q.Variables a / 64) (cda c q.Variables a % 64) = a := by
      intro a a0 a1
      have ee := Pa_elt a0 a1
      have h0 := ee.h0
      have h1 := ee.h1
      unfold cda
      rw [cd_mod (by omega) (by omega), cd_div (by omega) (by omega), pix_of a0 a1]
    rw [at_ a a0 a1, at_ b b0 b1] at hf
    exact hf
  · obtain ⟨t, k, ht, hk, hfr, rfl, rfl⟩ := hg
    have m := hq.tm t ht.1 ht.2
    have hfr2 : el c.From k = el c.To (el q.Right t).Arrow := by rw [← m.2.2]; exact hfr
    have L := hS.yes _ k m.1.2.1.1 m.1.2.1.2 hk.1 hk.2 hfr.symm
    have R := hS.yes _ k m.2.1.2.1.1 m.2.1.2.1.2 hk.1 hk.2 hfr2.symm
    rw [cd_mod (by omega) (by omega), cd_div (by omega) (by omega), cd_mod (by omega) (by omega), cd_div (by omega) (by omega)]
    exact hd t k ht.1 ht.2 hk.1 hk.2 hfr
/-- Labels by roots are numbered as the classes are. -/
theorem labels_eq (hq : Qok c q) {C : List (List Int)} (hC : CFin c q C) {j : List Int} {ρ : Int → Int} (h : JInv c q j ρ) (hd : ∀ t k, 0 ≤ t → t < (q.Left.length : Int) → 0 ≤ k → k < (c.From.length : Int) → el c.From k = el c.To (el q.Left t).Arrow → ρ (lsd c q t k) = ρ (rsd c q t k))
    {y : Int} (y0 : 0 ≤ y) (y1 : y < c.Objects) : nrm ((ixs c q.Variables y ((PL c q.Variables).length : Int)).map ρ) = el C y := by
  have r := hC.inv.row y y0 y1
  have z := szP_le hq y
  have le := r.le
  have li := ixs_len c q.Variables y
  have ll : ((((ixs c q.Variables y ((PL c q.Variables).length : Int)).map ρ).length : Nat) : Int) = szP c q.Variables y := by rw [List.length_map]; exact li
  rw [← r.nm]
  refine nrm_congr (by unfold Small; omega) (by omega) fun u v u0 u1 v0 v1 => ?_
  rw [ll] at u1 v1
  have au := ax_in (c := c) (V := q.Variables) u0 u1
  have av := ax_in (c := c) (V := q.Variables) v0 v1
  rw [elM u0 (by omega), elM v0 (by omega)]
  rw [show el C y = el C y from rfl]
  have a := h.all hq hd au.1.1 au.1.2 av.1.1 av.1.2
  have b := hC.all hq y0 y1 u0 u1 v0 v1
  rw [au.2.2.2, av.2.2.2] at a
  exact a.trans b.symm
end Go.Gx

/- The law of IsImplied. -/
namespace Go.Gx
open Classical
set_option maxHeartbeats 1000000

variable {c : XCategory} {q : XQuery}
/-! ### the loops of impl -/
theorem pairs_r (hq : Qok c q) {ρ : Type} {Q : ρ → Prop} {fin : List Ximpl_pair_int64 × Int → Option ρ} (hfin : Ret (fin (PL c q.Variables, (q.Variables.length : Int))) Q) :
    Ret (iter (fun (s1 : (List Ximpl_pair_int64) × Int) next2 =>
    if decide (s1.2 < (q.Variables.length : Int)) then
      (idx q.Variables s1.2).bind fun y6 =>
      (M.impl_Category_outOf c y6).bind fun v7 =>
      iter (fun (s8 : (List Ximpl_pair_int64) × Int) next9 =>
        if decide (s8.2 < (v7.length : Int)) then
          (idx v7 s8.2).bind fun y13 =>
          chk (s8.1.length + (([(⟨s1.2, y13⟩ : Ximpl_pair_int64)] : List Ximpl_pair_int64).length) ≤ lim) (
            next9 (s8.1 ++ ([(⟨s1.2, y13⟩ : Ximpl_pair_int64)] : List Ximpl_pair_int64), IntKind.i64.wrap (s8.2 + 1)))
        else
          next2 (s8.1, IntKind.i64.wrap (s1.2 + 1))) fuel (s1.1, 0)
    else
      fin s1) fuel (([] : List Ximpl_pair_int64), 0)) Q := by
  have hS := hq.cat.1.shp
  have v4 := hq.v4
  refine Ret.acc (q.Variables.length : Int) (fun i s => s = PN c q.Variables i) (by omega) (by omega) rfl ?_ ?_
  · rintro i s next i0 i1 rfl hn
    have L := PN_len (V := q.Variables) hS i0
    have lo := outL_len hS (el q.Variables i)
    dsimp only
    rw [if_pos (decide_eq_true i1)]
    refine Ret.idx i0 i1 (Ret.call (show M.impl_Category_outOf c (el q.Variables i) = some (outL c (el q.Variables i)) from outOf_eq hS.small.s1 _) ?_)
    refine Ret.acc ((outL c (el q.Variables i)).length : Int) (fun k s => s = PN c q.Variables i ++ ((outL c (el q.Variables i)).take k.toNat).map fun h => ⟨i, h⟩) (by omega) (by omega) (by simp) ?_ ?_
    · rintro k s nx k0 k1 rfl hn2
      dsimp only
      rw [if_pos (decide_eq_true k1)]
      refine Ret.idx k0 k1 (Ret.chk ?_ (hn2 _ ?_))
      · unfold lim; simp only [List.length_append, List.length_map, List.length_take, List.length_cons, List.length_nil]; omega
      · rw [take_succ_el k0 k1, List.map_append, List.append_assoc]; rfl
    · rintro s nx rfl
      dsimp only
      rw [if_neg (by simp)]
      refine hn _ ?_
      rw [show (((outL c (el q.Variables i)).length : Int)).toNat = (outL c (el q.Variables i)).length by omega, List.take_length]
      unfold PN
      rw [flatI_succ _ i0]
  · rintro s next rfl
    dsimp only
    rw [if_neg (by simp)]
    exact hfin

/-- The classes in the map, for all elements over the objects below Y. -/
def MapOk (c : XCategory) (q : XQuery) (C : List (List Int)) (Y : Int) (m : List ((Int × Int) × Int)) : Prop := ∀ y, 0 ≤ y → y < Y → ∀ p, 0 ≤ p → p < szP c q.Variables y → mget (pv c q.Variables y p, ph c q.Variables y p) m = some (cl C y p)
theorem MapOk.value (hq : Qok c q) {C : List (List Int)} {m : List ((Int × Int) × Int)} (h : MapOk c q C c.Objects m) {i k : Int} (e : Elt c q.Variables i k) : mget (i, k) m = some (cl C (el c.To k) (psn c q.Variables (el c.To k) i k)) := by
  have hS := hq.cat.1.shp
  have t := hS.to_in k e.h0 e.h1
  have r := psn_row hS e rfl
  have := h _ t.1 t.2 _ r.1.1 r.1.2
  rwa [r.2.1, r.2.2] at this

theorem canonical_r (hq : Qok c q) {C : List (List Int)} (hC : CFin c q C) : Ret (M.impl_Category_canonical c q) fun r => r.2 = decide (In 17 (szC c C)) ∧
    (r.2 = true → ∀ t, Tm c q.Variables t → M.impl_canonical_value r.1 t = some (cl C (el c.To t.Arrow) (psn c q.Variables (el c.To t.Arrow) t.Variable t.Arrow))) := by
  have hS := hq.cat.1.shp
  have n0 := hS.n0
  have n8 := hS.n8
  have m40 := hS.m40
  have lto := hS.lto
  have L := PL_len (V := q.Variables) hS hq.v4
  unfold M.impl_Category_canonical
  refine pairs_r hq ?_
  dsimp only
  refine Ret.bind (numbered_r hS hq.v4) fun m hm => ?_
  refine Ret.call (joinerOf_eq (by omega) (by omega)) (joined_r hq hm fun j ρ hj hd => ?_)
  dsimp only
  refine Ret.call (copy_eq hS.small) ?_
  refine Ret.loop c.Objects (fun Y s => s.2.2.2 = Y ∧ s.2.2.1 = (szC c C).take Y.toNat ∧ JInv c q s.2.1 ρ ∧ MapOk c q C Y s.1) n0 (by omega) ⟨rfl, by simp, hj, fun y y0 y1 => by omega⟩ ?_ ?_
  · rintro Y ⟨M0, j0, sz, Y'⟩ next Y0 Y1 ⟨e1, e2, hj0, hM⟩ hn
    dsimp only at e1 e2 hj0 hM hn ⊢
    subst e1 e2
    have r := hC.inv.row Y' Y0 Y1
    have sm := r.small hq
    have le := r.le
    have z := szP_le hq Y'
    have lix := ixs_len c q.Variables Y'
    rw [if_pos (decide_eq_true Y1)]
    refine Ret.loop ((PL c q.Variables).length : Int) (fun i s => s.2.2.2 = i ∧ s.1 = (ixs c q.Variables Y' i).map ρ ∧ s.2.1 = (ixs c q.Variables Y' i).map (Pa c q.Variables) ∧ JInv c q s.2.2.1 ρ) (by omega) (by omega) ⟨rfl, rfl, rfl, hj0⟩ ?_ ?_
    · rintro i ⟨lb, mb, j1, i'⟩ nx i0 i1 ⟨f1, f2, f3, hj1⟩ hn2
      dsimp only at f1 f2 f3 hj1 hn2 ⊢
      subst f1 f2 f3
      have ee := Pa_elt i0 i1
      have li := fil_length_le i' (ty c q.Variables Y')
      rw [if_pos (decide_eq_true i1)]
      refine Ret.idx i0 i1 (Ret.idx ee.h0 (by have := ee.h1; show (Pa c q.Variables i').second_ < _; omega) (Ret.ite (fun b => ?_) (fun b => hn2 _ ?_)))
      · have b : ty c q.Variables Y' i' = true := b
        refine Ret.bind (root_r hj1.uf (by have := hj1.ln; unfold Small; omega) i0 (by have := hj1.ln; omega)) ?_
        rintro ⟨a, j2⟩ ⟨ea, u2, l2, _⟩
        dsimp only at ea u2 l2 ⊢
        subst ea
        refine Ret.chk ?_ (Ret.chk ?_ (hn2 _ ⟨wrap_in (by omega) (by omega), ?_, ?_, ⟨u2, by have := hj1.ln; dsimp only; omega, hj1.sd⟩⟩))
        · unfold lim ixs; simp only [List.length_map, List.length_cons, List.length_nil]; omega
        · unfold lim ixs; simp only [List.length_map, List.length_cons, List.length_nil]; omega
        · unfold ixs; rw [fil_succ _ i0, if_pos b, List.map_append]; rfl
        · unfold ixs; rw [fil_succ _ i0, if_pos b, List.map_append]; rfl
      · have b : ¬ ty c q.Variables Y' i' = true := b
        refine ⟨wrap_in (by omega) (by omega), ?_, ?_, hj1⟩
        · unfold ixs; rw [fil_succ _ i0, if_neg b, List.append_nil]
        · unfold ixs; rw [fil_succ _ i0, if_neg b, List.append_nil]
    · rintro ⟨lb, mb, j1, i'⟩ nx ⟨f1, f2, f3, hj1⟩
      dsimp only at f1 f2 f3 hj1 ⊢
      subst f1 f2 f3
      rw [if_neg (by simp)]
      have ln := labels_eq hq hC hj1 hd Y0 Y1
      have nl : M.impl_normal ((ixs c q.Variables Y' ((PL c q.Variables).length : Int)).map ρ) = some (el C Y') := by
        rw [← ln]
        exact normal_eq (by unfold Small; rw [List.length_map]; omega)
      have lm : ((((ixs c q.Variables Y' ((PL c q.Variables).length : Int)).map (Pa c q.Variables)).length : Nat) : Int) = szP c q.Variables Y' := by rw [List.length_map]; exact lix
      refine Ret.call nl ?_
      refine Ret.acc (szP c q.Variables Y') (fun p M1 => MapOk c q C Y' M1 ∧ ∀ p', 0 ≤ p' → p' < p → mget (pv c q.Variables Y' p', ph c q.Variables Y' p') M1 = some (cl C Y' p')) (by omega) (by omega) ⟨hM, fun p' a b => by omega⟩ ?_ ?_
      · rintro p M1 nx2 p0 p1 ⟨h1, h2⟩ hn3
        have a := ax_in (c := c) (V := q.Variables) p0 p1
        dsimp only
        rw [lm, if_pos (decide_eq_true p1)]
        refine Ret.idx p0 (by omega) (Ret.idx p0 (by omega) (hn3 _ ?_))
        have em : el ((ixs c q.Variables Y' ((PL c q.Variables).length : Int)).map (Pa c q.Variables)) p = Pa c q.Variables (ax c q.Variables Y' p) := elM p0 (by rw [lix]; exact p1)
        rw [em, a.2.1, a.2.2.1]
        obtain ⟨_, pe, pt⟩ := pr_at (c := c) (V := q.Variables) p0 p1
        refine ⟨fun y y0 y1 p' a0 a1 => ?_, fun p' a0 a1 => ?_⟩
        · rw [mgetQ, if_neg fun w => ?_]
          · exact h1 y y0 y1 p' a0 a1
          · have w := Prod.mk.inj w
            obtain ⟨_, _, pt'⟩ := pr_at (c := c) (V := q.Variables) a0 a1
            have : el c.To (ph c q.Variables y p') = el c.To (ph c q.Variables Y' p) := by rw [w.2]
            rw [pt', pt] at this
            omega
        · rw [mgetQ]
          by_cases w : p' = p
          · subst w; rw [if_pos rfl]
          · rw [if_neg fun x => w ?_]
            · exact h2 p' a0 (by omega)
            · have x := Prod.mk.inj x
              have e1 := psn_of (c := c) (V := q.Variables) hS a0 (by show p' < szP c q.Variables Y'; omega)
              have e2 := psn_of (c := c) (V := q.Variables) hS p0 p1
              rw [← e1, ← e2, x.1, x.2]
      · rintro M1 nx2 ⟨h1, h2⟩
        dsimp only
        rw [lm, if_neg (by simp)]
        have cr : Ret (M.impl_partition_classes (el C Y')) fun x => x = cnt (el C Y') ((el C Y').length : Int) := by
          have := classes_r sm
          rwa [r.nm] at this
        refine Ret.call (Ret.eq cr) (Ret.chk ?_ (hn _ ⟨wrap_in (by omega) (by omega), ?_, hj1, fun y y0 y1 p' a0 a1 => ?_⟩))
        · have : ((szC c C).length : Int) = c.Objects := by unfold szC; rw [tab_length]; omega
          unfold lim; rw [List.length_take]; simp only [List.length_cons, List.length_nil]; omega
        · dsimp only
          rw [take_succ_el Y0 (by unfold szC; rw [tab_length]; omega), szC_at Y0 Y1]
        · by_cases e : y = Y'
          · subst e; exact h2 p' a0 a1
          · exact h1 y y0 (by omega) p' a0 a1
  · rintro ⟨M0, j0, sz, Y'⟩ next ⟨e1, e2, hj0, hM⟩
    dsimp only at e1 e2 hj0 hM ⊢
    subst e1 e2
    have LZ : ((szC c C).length : Int) = c.Objects := by unfold szC; rw [tab_length]; omega
    rw [if_neg (by simp), List.take_of_length_le (by omega)]
    have fit : M.impl_fitting (szC c C) = some (decide (In 17 (szC c C))) := by
      unfold M.impl_fitting
      rw [within_eq (by unfold Small; omega) (by omega) (by omega)]
      rfl
    refine Ret.call fit ?_
    by_cases hI : In 17 (szC c C)
    · rw [decide_eq_true hI, if_pos rfl]
      refine Ret.acc (c.From.length : Int) (fun a s => (s.length : Int) = a) (by omega) (by omega) rfl ?_ ?_
      · rintro a s nx a0 a1 ls hn
        have fa := hS.from_in a a0 a1
        have si := hI _ fa.1 (by omega)
        dsimp only
        rw [if_pos (decide_eq_true a1)]
        refine Ret.idx a0 a1 (Ret.idx fa.1 (by omega) (Ret.chk ⟨si.1, by unfold lim; omega⟩ ?_))
        refine Ret.acc ((PL c q.Variables).length : Int) (fun i t => (t.length : Int) = el (szC c C) (el c.From a)) (by omega) (by omega) (by rw [List.length_replicate]; omega) ?_ ?_
        · rintro i t nx2 i0 i1 lt hn2
          have ee := Pa_elt i0 i1
          dsimp only
          rw [if_pos (decide_eq_true i1)]
          refine Ret.idx i0 i1 (Ret.idx ee.h0 (by have := ee.h1; show (Pa c q.Variables i).second_ < _; omega) (Ret.ite (fun b => ?_) (fun b => hn2 _ lt)))
          have b : el c.To (Pa c q.Variables i).second_ = el c.From a := beq_iff_eq.1 b
          refine Ret.call (then_in hS ⟨ee.h0, ee.h1⟩ ⟨a0, a1⟩) ?_
          have v := hM.value hq ee
          have r := psn_row hS ee rfl
          have ce := cl_lt hq hC.inv (x := el c.To (Pa c q.Variables i).second_) (by rw [b]; exact fa.1) (by rw [b]; exact fa.2) r.1.1 r.1.2
          change Ret ((idx t ((mget ((Pa c q.Variables i).first_, (Pa c q.Variables i).second_) M0).getD 0)).bind _) _
          rw [v]
          refine Ret.idx ce.1 (by rw [lt, ← b]; exact ce.2) (hn2 _ ?_)
          rw [List.length_set]; exact lt
        · rintro t nx2 lt
          dsimp only
          rw [if_neg (by simp)]
          refine Ret.chk (by unfold lim; omega) (hn _ ?_)
          rw [List.length_append, List.length_singleton]; omega
      · rintro s nx ls
        dsimp only
        rw [if_neg (by simp)]
        refine Ret.some ⟨rfl, fun _ t ht => ?_⟩
        unfold M.impl_canonical_value
        dsimp only
        rw [hM.value hq ht.elt]
        rfl
    · rw [decide_eq_false hI, if_neg (by simp)]
      exact Ret.some ⟨rfl, fun h => by cases h⟩

/-! ### which are queries, by impl -/
theorem isTerm_eq (hv : (q.Variables.length : Int) ≤ 1048576) (hf : (c.From.length : Int) ≤ 1048576) (t : XTerm) : M.impl_Category_isTerm c q t = some (decide (Tm c q.Variables t)) := by
  apply Ret.ask
  unfold M.impl_Category_isTerm M.impl_Category_arrows
  refine Ret.call (inR_eq (by omega) hv) (Ret.ite (fun h1 => ?_) (fun h1 => Ret.some ⟨(fun h => by cases h), fun e => absurd (decide_eq_true e.1) h1⟩))
  have h1 := of_decide_eq_true h1
  refine Ret.call (rfl : some (c.From.length : Int) = some (c.From.length : Int)) (Ret.call (inR_eq (by omega) hf) (Ret.ite (fun h2 => ?_) (fun h2 => Ret.some ⟨(fun h => by cases h), fun e => absurd (decide_eq_true e.2.1) h2⟩)))
  have h2 := of_decide_eq_true h2
  refine Ret.idx h2.1 h2.2 (Ret.idx h1.1 h1.2 (Ret.some ?_))
  rw [beq_iff_eq]
  exact ⟨fun e => ⟨h1, h2, e⟩, fun e => e.2.2⟩
def Cnd (c : XCategory) (q : XQuery) (l r : XTerm) : Prop := Tm c q.Variables l ∧ Tm c q.Variables r ∧ el c.To l.Arrow = el c.To r.Arrow
theorem isCondition_eq (hS : Shp c) (hv : (q.Variables.length : Int) ≤ 1048576) (l r : XTerm) : M.impl_Category_isCondition c q l r = some (decide (Cnd c q l r)) := by
  apply Ret.ask
  have m40 := hS.m40
  have lto := hS.lto
  unfold M.impl_Category_isCondition
  refine Ret.call (isTerm_eq hv (by omega) l) (Ret.ite (fun h1 => ?_) (fun h1 => Ret.some ⟨(fun h => by cases h), fun e => absurd (decide_eq_true e.1) h1⟩))
  have h1 := of_decide_eq_true h1
  refine Ret.call (isTerm_eq hv (by omega) r) (Ret.ite (fun h2 => ?_) (fun h2 => Ret.some ⟨(fun h => by cases h), fun e => absurd (decide_eq_true e.2.1) h2⟩))
  have h2 := of_decide_eq_true h2
  refine Ret.idx h1.2.1.1 (by have := h1.2.1.2; omega) (Ret.idx h2.2.1.1 (by have := h2.2.1.2; omega) (Ret.some ?_))
  rw [beq_iff_eq]
  exact ⟨fun e => ⟨h1, h2, e⟩, fun e => e.2.2⟩
theorem isQuery_eq (hc : IsCat c) (sq : SmallQ q) : M.impl_Category_isQuery c q = some (decide (Qok c q)) := by
  apply Ret.ask
  have s1 := sq.s1
  have s2 := sq.s2
  unfold Small at s1 s2
  have n0 := hc.1.shp.n0
  have n8 := hc.1.shp.n8
  unfold M.impl_Category_isQuery
  simp only [bne_iff_ne, ne_eq]
  refine Ret.ite (fun h2 => Ret.some ⟨(fun h => by cases h), fun e => absurd (of_decide_eq_true h2) (by have := e.v4; omega)⟩) (fun h2 => ?_)
  have h2 : (q.Variables.length : Int) ≤ 4 := Int.not_lt.1 fun z => h2 (decide_eq_true z)
  refine Ret.call (within_eq sq.s1 (by omega) (by omega)) (Ret.ite (fun h3 => ?_) (fun h3 => Ret.some ⟨(fun h => by cases h), fun e => absurd (decide_eq_true e.vin) h3⟩))
  have h3 := of_decide_eq_true h3
  refine Ret.ite (fun h4 => Ret.some ⟨(fun h => by cases h), fun e => absurd (of_decide_eq_true h4) (by have := e.l6; omega)⟩) (fun h4 => ?_)
  have h4 : (q.Left.length : Int) ≤ 6 := Int.not_lt.1 fun z => h4 (decide_eq_true z)
  refine Ret.ite (fun h5 => Ret.some ⟨(fun h => by cases h), fun e => absurd e.lr h5⟩) (fun h5 => ?_)
  have h5 := Decidable.not_not.1 h5
  refine Ret.all (q.Left.length : Int) (fun k => Cnd c q (el q.Left k) (el q.Right k)) (by omega) (by omega) ?_ ?_
  · intro k next k0 k1 hp hn
    rw [if_pos (decide_eq_true k1)]
    exact Ret.idx k0 k1 (Ret.idx k0 (by omega) (Ret.call (isCondition_eq hc.1.shp (by omega) _ _) (Ret.ite (fun a => hn (of_decide_eq_true a)) (fun a => Ret.some ⟨(fun h => by cases h), fun e => absurd (decide_eq_true (show Cnd c q _ _ from e.tm k k0 k1)) a⟩))))
  · intro next hp
    rw [if_neg (by simp)]
    refine Ret.ite (fun h6 => ?_) (fun h6 => Ret.some ⟨(fun h => by cases h), fun e => absurd (decide_eq_true e.o4) h6⟩)
    have h6 := of_decide_eq_true h6
    refine Ret.call (within_eq sq.s4 (by omega) (by omega)) (Ret.some ?_)
    rw [decide_eq_true_iff]
    exact ⟨fun h7 => ⟨hc, h2, h3, h4, h5, h6, h7, hp⟩, fun e => e.oin⟩
theorem areQueries_eq (sc : SmallC c) (sq : SmallQ q) : M.impl_areQueries c [q] = some (decide (Qok c q)) := by
  apply Ret.ask
  unfold M.impl_areQueries
  refine Ret.call (isCategory_eq sc) (Ret.ite (fun h1 => ?_) (fun h1 => Ret.some ⟨(fun h => by cases h), fun e => absurd (decide_eq_true e.cat) h1⟩))
  have h1 := of_decide_eq_true h1
  refine Ret.all 1 (fun _ => Qok c q) (by omega) (by omega) ?_ ?_
  · intro k next k0 k1 hp hn
    obtain rfl : k = 0 := by omega
    rw [if_pos (by simp)]
    refine Ret.idx (by omega) (by simp) (Ret.call (show M.impl_Category_isQuery c (el [q] 0) = some (decide (Qok c q)) from isQuery_eq h1 sq) (Ret.ite (fun a => hn (of_decide_eq_true a)) (fun a => Ret.some ⟨(fun h => by cases h), fun e => absurd (decide_eq_true e) a⟩)))
  · intro next hp
    rw [if_neg (by simp)]
    exact Ret.some ⟨fun _ => hp 0 (by omega) (by omega), fun _ => rfl⟩

/-! ### the law -/
theorem IsImplied_both (sc : SmallC c) (sq : SmallQ q) (l r : XTerm) : ∃ b w, M.spec_IsImplied c q l r = some (b, w) ∧ M.impl_IsImplied c q l r = some (b, w) := by
  unfold M.spec_IsImplied M.impl_IsImplied
  rw [IsQuery_eq sc sq, areQueries_eq sc sq]
  by_cases hq : Qok c q
  case neg =>
    rw [decide_eq_false hq]
    exact ⟨_, _, rfl, rfl⟩
  rw [decide_eq_true hq]
  have hS := hq.cat.1.shp
  have v4 := hq.v4
  have lto := hS.lto
  simp only [Option.bind_some, if_true]
  rw [l38Term_eq sq.s1, isCondition_eq hS (by omega)]
  by_cases hl : Tm c q.Variables l
  case neg =>
    rw [decide_eq_false hl, decide_eq_false fun z : Cnd c q l r => hl z.1]
    exact ⟨_, _, rfl, rfl⟩
  rw [decide_eq_true hl]
  simp only [Option.bind_some, if_true]
  rw [l38Term_eq sq.s1]
  by_cases hr : Tm c q.Variables r
  case neg =>
    rw [decide_eq_false hr, decide_eq_false fun z : Cnd c q l r => hr z.2.1]
    exact ⟨_, _, rfl, rfl⟩
  rw [decide_eq_true hr]
  simp only [Option.bind_some, if_true]
  have l0 := hl.2.1
  have r0 := hr.2.1
  rw [idx_el (l := c.To) l0.1 (by omega), idx_el (l := c.To) r0.1 (by omega)]
  simp only [Option.bind_some]
  by_cases ht : el c.To l.Arrow = el c.To r.Arrow
  case neg =>
    rw [decide_eq_false fun z : Cnd c q l r => ht z.2.2, if_pos (by simpa using ht)]
    exact ⟨_, _, rfl, rfl⟩
  rw [decide_eq_true (show Cnd c q l r from ⟨hl, hr, ht⟩), if_neg (by simpa using ht)]
  obtain ⟨w, ew, C, hC, rfl⟩ := l38Implied_r hq hl hr
  obtain ⟨⟨k, ok⟩, ek, hk, hv⟩ := canonical_r hq hC
  dsimp only at hk hv
  subst hk
  rw [ew, ek]
  simp only [Option.bind_some, if_true]
  by_cases hI : In 17 (szC c C)
  · rw [decide_eq_true hI] at hv ⊢
    simp only [if_pos hI, if_true]
    rw [hv rfl l hl, hv rfl r hr]
    exact ⟨_, _, rfl, rfl⟩
  · rw [decide_eq_false hI]
    simp only [if_neg hI]
    exact ⟨_, _, rfl, rfl⟩

theorem szTermS_r {l : List XTerm} {n : Int} (h0 : 0 ≤ n) (h1 : n ≤ 1048576) (hl : Fits l) : Ret (M.laws_szTermS l n) fun r => (r < 0 ∧ r = -1) ∨ (0 ≤ r ∧ r ≤ n ∧ Small l) := by
  unfold Fits at hl
  unfold M.laws_szTermS
  rw [wrap_in (by omega) (by omega)]
  refine Ret.ite (fun h => Ret.some (.inl ⟨by omega, rfl⟩)) (fun h => Ret.some (.inr ?_))
  have h : 0 ≤ n - (l.length : Int) := Int.not_lt.1 fun z => h (decide_eq_true z)
  exact ⟨h, by omega, by unfold Small; omega⟩
structure FitsQ (q : XQuery) : Prop where
  f1 : Fits q.Variables
  f2 : Fits q.Left
  f3 : Fits q.Right
  f4 : Fits q.Output
theorem fitsQ {q : XQuery} (h : R.XQuery q) : FitsQ q := ⟨h.1.1, h.2.1.1, h.2.2.1.1, h.2.2.2.1⟩
theorem szQuery_r {n : Int} (h0 : 0 ≤ n) (h1 : n ≤ 1048576) (h : FitsQ q) : Ret (M.laws_szQuery q n) fun r => (r < 0 ∧ r = -1) ∨ (0 ≤ r ∧ r ≤ n ∧ SmallQ q) := by
  obtain ⟨g1, g2, g3, g4⟩ := h
  unfold M.laws_szQuery
  simp only [decide_eq_true_eq]
  (repeat' (first | with_reducible refine Ret.pos ‹_› ?_ | with_reducible refine Ret.neg ‹_› ?_ | with_reducible refine Ret.neg (Int.lt_irrefl _) ?_ | with_reducible refine Ret.ite (fun _ => ?_) (fun _ => ?_) | with_reducible refine Ret.idx ?_ ?_ ?_ | with_reducible refine Ret.chk ?_ ?_ | with_reducible refine hn3 ?_ | with_reducible refine hn2 ?_ | with_reducible refine hn1 ?_ | with_reducible refine hn3 _ ?_ | with_reducible refine hn2 _ ?_ | with_reducible refine hn1 _ ?_ | with_reducible refine Ret.bind (szInt64S_r ?_ ?_ ?_) fun v hv => ?_ | with_reducible refine Ret.bind (szTermS_r ?_ ?_ ?_) fun v hv => ?_ | with_reducible refine Ret.some ?_))
  all_goals first | assumption | omega | (refine Or.inl ⟨by omega, rfl⟩) | (refine Or.inr ⟨by omega, by omega, ⟨?_, ?_, ?_, ?_⟩⟩ <;> grind)
theorem toTermS_eq {l : List XTerm} (h : Small l) : M.laws_toTermS l = some l := by
  apply Ret.eq
  unfold Small at h
  unfold M.laws_toTermS
  refine Ret.chk ⟨by omega, by unfold lim; omega⟩ ?_
  refine Ret.acc (l.length : Int) (fun i a => a = tab (l.length : Int) fun j => if j < i then el l j else ⟨0, 0⟩) (by omega) (by omega) ?_ ?_ ?_
  · rw [rep_tab]; apply tab_congr; intro j h0 h1; rw [if_neg (by omega)]
  · rintro i a next i0 i1 rfl hn
    dsimp only
    rw [if_pos (decide_eq_true i1)]
    refine Ret.idx i0 i1 (Ret.call (show M.laws_toTerm (el l i) = some (el l i) from rfl) (Ret.idx i0 (by rw [tab_length]; omega) (hn _ (set_copy i0 i1))))
  · rintro a next rfl
    dsimp only
    rw [if_neg (by simp)]
    refine Ret.some ?_
    conv => rhs; rw [← tab_el l]
    apply tab_congr; intro j h0 h1; rw [if_pos h1]
theorem toQuery_eq (h : SmallQ q) : M.laws_toQuery q = some q := by
  unfold M.laws_toQuery
  rw [toInt64S_eq h.s1, toTermS_eq h.s2, toTermS_eq h.s3, toInt64S_eq h.s4]; rfl
theorem eqTermS_refl {l : List XTerm} (h : Small l) : M.laws_eqTermS l l = some true := by
  apply Ret.eq
  unfold Small at h
  unfold M.laws_eqTermS
  simp only [bne_self_eq_false, Bool.false_eq_true, if_false]
  refine Ret.all (l.length : Int) (fun _ => True) (by omega) (by omega) ?_ ?_
  · intro i next i0 i1 hp hn
    rw [if_pos (decide_eq_true i1)]
    refine Ret.idx i0 i1 (Ret.idx i0 i1 (Ret.call (show M.laws_eqTerm (el l i) (el l i) = some true by unfold M.laws_eqTerm; simp) ?_))
    rw [if_pos rfl]
    exact hn trivial
  · intro next hp
    rw [if_neg (by simp)]
    exact Ret.some rfl
theorem eqQuery_refl (h : SmallQ q) : M.laws_eqQuery q q = some true := by
  unfold M.laws_eqQuery
  rw [eqInt64S_refl h.s1, eqTermS_refl h.s2, eqTermS_refl h.s3, eqInt64S_refl h.s4]; simp

theorem law_IsImplied {a0 : XCategory} {a1 : XQuery} {a2 a3 : XTerm} (h0 : R.XCategory a0) (h1 : R.XQuery a1) (_ : R.XTerm a2) (_ : R.XTerm a3) : M.laws_FnExactIsImplied a0 a1 a2 a3 = some true := by
  unfold M.laws_FnExactIsImplied
  obtain ⟨v0, e0, hv0⟩ := szCategory_r (n := 1048576) (by decide) (by decide) (fitsC h0)
  rw [e0, Option.bind_some]
  rcases hv0 with ⟨z0, _⟩ | ⟨l0, u0, s0⟩
  · rw [if_pos (decide_eq_true z0)]
  · rw [if_neg (fun h => absurd (of_decide_eq_true h) (by omega))]
    obtain ⟨v1, e1, hv1⟩ := szQuery_r (n := v0) l0 (by omega) (fitsQ h1)
    rw [e1, Option.bind_some]
    rcases hv1 with ⟨z1, _⟩ | ⟨l1, u1, s1⟩
    · rw [if_pos (decide_eq_true z1)]
    · rw [if_neg (fun h => absurd (of_decide_eq_true h) (by omega))]
      rw [toCategory_eq s0, Option.bind_some, toQuery_eq s1, Option.bind_some]
      unfold M.laws_toTerm
      obtain ⟨w, w', es, ei⟩ := IsImplied_both s0 s1 a2 a3
      have hb : ((w == w) == false) = false := by cases w <;> rfl
      simp only [Option.bind_some]
      rw [es, ei]
      simp only [Option.bind_some]
      rw [eqCategory_refl s0, eqQuery_refl s1]
      simp only [Option.bind_some, bne_self_eq_false, Bool.false_eq_true, if_false, if_true, hb]
end Go.Gx
