/- Laid together: part 1. -/
import Derived.Test.YthafadgnjkmfkaaGxEP0
import Derived.Test.YthafadgnjkmfkaaGxEM0
/- Plain laws: universal arrows. -/
namespace Go.Gx
open Classical
set_option maxHeartbeats 1000000

/-! ### lists without doubles -/
theorem fil_nodup (n : Int) (p : Int → Bool) : (fil n p).Nodup := by
  unfold fil
  refine List.Pairwise.filter _ ?_
  rw [List.pairwise_map]
  exact (show List.Pairwise (fun a b : Nat => a ≠ b) (List.range n.toNat) from List.nodup_range).imp fun h e => h (by omega)
theorem homL_nodup (c : XCategory) (x y : Int) : (homL c x y).Nodup := fil_nodup _ _

/-! ### a map's keys -/
/-- What a map holds after the first i values. -/
structure Keys (l : List Int) (m : List (Int × Bool)) : Prop where
  mem : ∀ k, k ∈ m.map (·.1) ↔ k ∈ l
  le : m.length ≤ l.length
  eq : m.length = l.length ↔ l.Nodup
/-! ### universal arrows -/
abbrev lftL (f : XFunctor) (x z e g : Int) : List Int := (homL f.Source x z).filter fun u => cmp f.Target (el f.Arrows u) e == g
def Univ (f : XFunctor) (y z e : Int) : Prop := ∀ x, 0 ≤ x → x < f.Source.Objects → ∀ g ∈ homL f.Target (el f.Objects x) y, ((lftL f x z e g).length : Int) = 1

/-- What is found: the first universal arrow to y. -/
def Found (f : XFunctor) (y : Int) (r : Int × Int × Bool) : Prop :=
  (r.2.2 = true ∧ 0 ≤ r.1 ∧ r.1 < f.Source.Objects ∧ (∀ x, 0 ≤ x → x < r.1 → ∀ g ∈ homL f.Target (el f.Objects x) y, ¬ Univ f y x g) ∧
    ∃ j, 0 ≤ j ∧ j < ((homL f.Target (el f.Objects r.1) y).length : Int) ∧ r.2.1 = el (homL f.Target (el f.Objects r.1) y) j ∧ Univ f y r.1 r.2.1 ∧ ∀ k, 0 ≤ k → k < j → ¬ Univ f y r.1 (el (homL f.Target (el f.Objects r.1) y) k)) ∨
  (r = (0, 0, false) ∧ ∀ x, 0 ≤ x → x < f.Source.Objects → ∀ g ∈ homL f.Target (el f.Objects x) y, ¬ Univ f y x g)

theorem Found.one {f : XFunctor} {y : Int} {r s : Int × Int × Bool} (hr : Found f y r) (hs : Found f y s) : r = s := by
  obtain ⟨r1, r2, r3⟩ := r
  obtain ⟨s1, s2, s3⟩ := s
  rcases hr with ⟨a1, a2, a3, a4, j, j0, j1, j2, j3, j4⟩ | ⟨a1, a2⟩ <;> rcases hs with ⟨b1, b2, b3, b4, k, k0, k1, k2, k3, k4⟩ | ⟨b1, b2⟩
  · dsimp only at *
    have e1 : r1 = s1 := by
      rcases Int.lt_trichotomy r1 s1 with h | h | h
      · exact absurd j3 (b4 r1 a2 h r2 (j2 ▸ el_mem j0 j1))
      · exact h
      · exact absurd k3 (a4 s1 b2 h s2 (k2 ▸ el_mem k0 k1))
    subst e1
    have e2 : j = k := by
      rcases Int.lt_trichotomy j k with h | h | h
      · exact absurd j3 (j2 ▸ k4 j j0 h)
      · exact h
      · exact absurd k3 (k2 ▸ j4 k k0 h)
    subst e2
    rw [j2, k2, a1, b1]
  · dsimp only at *
    exact absurd j3 (b2 r1 a2 a3 r2 (j2 ▸ el_mem j0 j1))
  · dsimp only at *
    exact absurd k3 (a2 s1 b2 b3 s2 (k2 ▸ el_mem k0 k1))
  · rw [a1, b1]

end Go.Gx

/- Plain laws: products of categories. -/
namespace Go.Gx
open Classical
set_option maxHeartbeats 2000000

theorem parts {k n m : Int} (h0 : 0 ≤ k) (h1 : k < n * m) (hm : 0 ≤ m) : 0 < m ∧ 0 ≤ k / m ∧ k / m < n ∧ 0 ≤ k % m ∧ k % m < m := by
  have hm : 0 < m := by
    rcases Int.lt_or_eq_of_le hm with h | h
    · exact h
    · rw [← h, Int.mul_zero] at h1; omega
  exact ⟨hm, Int.ediv_nonneg h0 (by omega), Int.ediv_lt_of_lt_mul hm h1, Int.emod_nonneg _ (by omega), Int.emod_lt_of_pos _ hm⟩
end Go.Gx

/- Plain laws: the product as impl makes it; projections. -/
namespace Go.Gx
open Classical
set_option maxHeartbeats 2000000

end Go.Gx

/- The law of ElementsProjection. -/
namespace Go.Gx
open Classical
set_option maxHeartbeats 1000000

/-! ### keys -/
theorem u8b {n : Int} (h0 : 0 ≤ n) (h1 : n < 256) : IntKind.u8.wrap n = n := by
  unfold IntKind.wrap
  simp [IntKind.bits, IntKind.signed]
  omega
theorem map_id_of {f : Int → Int} : ∀ {l : List Int}, (∀ x ∈ l, f x = x) → l.map f = l
  | [], _ => rfl
  | a :: l, h => by rw [List.map_cons, h a (by simp), map_id_of fun x hx => h x (by simp [hx])]
/-- The key of a list of numbers. -/
def kyB (x : List Int) : ByteArray := strI (x.map IntKind.u8.wrap ++ [255])
abbrev Byt (x : List Int) : Prop := ∀ n ∈ x, 0 ≤ n ∧ n < 256
theorem bytes_str {x : List Int} (h : Byt x) : bytesI (strI x) = x := by
  unfold bytesI strI
  simp only [List.map_map]
  refine map_id_of fun n hn => ?_
  have := h n hn
  simp only [Function.comp_apply, UInt8.toNat_ofNat']
  omega
theorem kyB_inj {x y : List Int} (hx : Byt x) (hy : Byt y) (h : kyB x = kyB y) : x = y := by
  unfold kyB at h
  rw [map_id_of fun n hn => u8b (hx n hn).1 (hx n hn).2, map_id_of fun n hn => u8b (hy n hn).1 (hy n hn).2] at h
  have h2 := congrArg bytesI h
  rw [bytes_str, bytes_str] at h2
  · exact List.append_cancel_right h2
  · intro n hn
    rcases List.mem_append.1 hn with q | q
    · exact hy n q
    · rw [List.mem_singleton.1 q]; omega
  · intro n hn
    rcases List.mem_append.1 hn with q | q
    · exact hx n q
    · rw [List.mem_singleton.1 q]; omega
theorem key_eq {x : List Int} (h : (x.length : Int) ≤ 1000) : M.impl_key [x] = some (kyB x) := by
  apply Ret.eq
  unfold M.impl_key
  refine Ret.acc 1 (fun i s => s = if i = 0 then [] else x.map IntKind.u8.wrap ++ [255]) (by omega) (by omega) (by simp) ?_ ?_
  · rintro i s next i0 i1 rfl hn
    obtain rfl : i = 0 := by omega
    dsimp only
    rw [if_pos (by simp)]
    refine Ret.idx (by omega) (by simp) ?_
    rw [show el [x] 0 = x from rfl]
    refine Ret.acc (x.length : Int) (fun j s => s = (x.take j.toNat).map IntKind.u8.wrap) (by omega) (by omega) (by simp) ?_ ?_
    · rintro j s nx j0 j1 rfl hn2
      dsimp only
      rw [if_pos (decide_eq_true j1)]
      refine Ret.idx j0 j1 (Ret.chk ?_ (hn2 _ ?_))
      · unfold lim; simp only [List.length_map, List.length_take, List.length_cons, List.length_nil]; omega
      · rw [take_succ_el j0 j1, List.map_append]; rfl
    · rintro s nx rfl
      dsimp only
      rw [if_neg (by simp), show ((x.length : Int)).toNat = x.length by omega, List.take_length]
      refine Ret.chk ?_ (hn _ ?_)
      · unfold lim; simp only [List.length_map, List.length_cons, List.length_nil]; omega
      · rw [if_neg (by omega)]
  · rintro s next rfl
    dsimp only
    rw [if_neg (by simp)]
    exact Ret.some rfl

/-! ### places -/
theorem mgetP {κ β : Type} [DecidableEq κ] {k k' : κ} {v : β} : ∀ m : List (κ × β), mget k' (mput k v m) = if k' = k then some v else mget k' m
  | [] => by simp [mput, mget]
  | e :: m => by
    have ih := mgetP (k := k) (k' := k') (v := v) m
    unfold mput
    by_cases h : k = e.1
    · rw [if_pos h]
      unfold mget
      by_cases h' : k' = k
      · simp [h']
      · rw [if_neg h', if_neg h', if_neg (by rw [← h]; exact h')]
    · rw [if_neg h]
      unfold mget
      by_cases h' : k' = e.1
      · rw [if_pos h', if_pos h', if_neg (by rw [h']; exact fun x => h x.symm)]
      · rw [if_neg h', if_neg h', ih]

/-- Lists of the same few numbers, each once. -/
structure Rws (A : List (List Int)) (k : Nat) : Prop where
  sm : Small A
  len : ∀ x ∈ A, x.length = k
  byt : ∀ x ∈ A, Byt x
  one : ∀ i j, 0 ≤ i → i < (A.length : Int) → 0 ≤ j → j < (A.length : Int) → el A i = el A j → i = j
  k9 : k ≤ 9
section
variable {A : List (List Int)} {k : Nat}
theorem places_r (sm : Small A) (hl : ∀ x ∈ A, (x.length : Int) ≤ 9) (hi : ∀ i j, 0 ≤ i → i < (A.length : Int) → 0 ≤ j → j < (A.length : Int) → kyB (el A i) = kyB (el A j) → i = j) :
    Ret (M.impl_places A) fun m => ∀ i, 0 ≤ i → i < (A.length : Int) → mget (kyB (el A i)) m = some i := by
  unfold M.impl_places
  refine Ret.acc (A.length : Int) (fun n m => ∀ i, 0 ≤ i → i < n → mget (kyB (el A i)) m = some i) (by omega) (by omega) (fun i i0 i1 => by omega) ?_ ?_
  · intro n m next n0 n1 hm hn
    dsimp only
    rw [if_pos (decide_eq_true n1)]
    refine Ret.idx n0 n1 (Ret.call (key_eq (by have := hl _ (el_mem n0 n1); omega)) (hn _ fun i i0 i1 => ?_))
    rw [mgetP]
    by_cases e : i = n
    · subst e; rw [if_pos rfl]
    · rw [if_neg fun q => e (hi i n i0 (by omega) n0 n1 q)]
      exact hm i i0 (by omega)
  · intro m next hm
    dsimp only
    rw [if_neg (by simp)]
    exact Ret.some hm
theorem places_some (sm : Small A) (hl : ∀ x ∈ A, (x.length : Int) ≤ 9) : Ret (M.impl_places A) fun _ => True := by
  unfold M.impl_places
  refine Ret.acc (A.length : Int) (fun _ _ => True) (by omega) (by omega) trivial ?_ ?_
  · intro n m next n0 n1 hm hn
    dsimp only
    rw [if_pos (decide_eq_true n1)]
    exact Ret.idx n0 n1 (Ret.call (key_eq (by have := hl _ (el_mem n0 n1); omega)) (hn _ trivial))
  · intro m next hm
    dsimp only
    rw [if_neg (by simp)]
    exact Ret.some trivial
theorem Rws.key (h : Rws A k) : ∀ i j, 0 ≤ i → i < (A.length : Int) → 0 ≤ j → j < (A.length : Int) → kyB (el A i) = kyB (el A j) → i = j :=
  fun i j i0 i1 j0 j1 e => h.one i j i0 i1 j0 j1 (kyB_inj (h.byt _ (el_mem i0 i1)) (h.byt _ (el_mem j0 j1)) e)
theorem Rws.l9 (h : Rws A k) : ∀ x ∈ A, (x.length : Int) ≤ 9 := fun x hx => by have := h.len x hx; have := h.k9; omega
theorem Rws.place (h : Rws A k) {i : Int} (i0 : 0 ≤ i) (i1 : i < (A.length : Int)) : M.spec_l05Place A (el A i) = some i := by
  apply Ret.eq
  have sm := h.sm
  unfold M.spec_l05Place
  refine Ret.all (A.length : Int) (fun j => el A j ≠ el A i) (by omega) (by omega) ?_ ?_
  · intro j next j0 j1 hp hn
    rw [if_pos (decide_eq_true j1)]
    have lj := h.l9 _ (el_mem j0 j1)
    have li := h.l9 _ (el_mem i0 i1)
    refine Ret.idx j0 j1 (Ret.call (l01Same_eq (by unfold Small; omega) (by unfold Small; omega)) (Ret.ite (fun e => Ret.some ?_) (fun e => hn fun z => e (decide_eq_true z))))
    exact h.one j i j0 j1 i0 i1 (of_decide_eq_true e)
  · intro next hp
    exact absurd rfl (hp i i0 i1)

/-- Where a row stands. -/
noncomputable def plcE (A : List (List Int)) (x : List Int) : Int := if h : ∃ i, 0 ≤ i ∧ i < (A.length : Int) ∧ el A i = x then h.choose else 0
theorem plc_in {x : List Int} (hx : x ∈ A) : (0 ≤ plcE A x ∧ plcE A x < (A.length : Int)) ∧ el A (plcE A x) = x := by
  have h : ∃ i, 0 ≤ i ∧ i < (A.length : Int) ∧ el A i = x := mem_el hx
  unfold plcE
  rw [dif_pos h]
  exact ⟨⟨h.choose_spec.1, h.choose_spec.2.1⟩, h.choose_spec.2.2⟩
theorem Rws.plc_s (h : Rws A k) {x : List Int} (hx : x ∈ A) : M.spec_l05Place A x = some (plcE A x) := by
  have p := plc_in hx
  conv => lhs; rw [← p.2]
  exact h.place p.1.1 p.1.2
theorem plc_m {m : List (ByteArray × Int)} (hm : ∀ i, 0 ≤ i → i < (A.length : Int) → mget (kyB (el A i)) m = some i) {x : List Int} (hx : x ∈ A) : (mget (kyB x) m).getD 0 = plcE A x := by
  have p := plc_in hx
  have := hm _ p.1.1 p.1.2
  rw [p.2] at this
  rw [this]; rfl
theorem column_e (sm : Small A) (hl : ∀ x ∈ A, x.length = k) {c : Int} (c0 : 0 ≤ c) (c1 : c < (k : Int)) : M.impl_column A c = some (A.map fun x => el x c) := by
  apply Ret.eq
  unfold M.impl_column
  refine Ret.acc (A.length : Int) (fun i s => s = (A.take i.toNat).map fun x => el x c) (by omega) (by omega) (by simp) ?_ ?_
  · rintro i s next i0 i1 rfl hn
    dsimp only
    rw [if_pos (decide_eq_true i1)]
    refine Ret.idx i0 i1 (Ret.idx c0 (by rw [hl _ (el_mem i0 i1)]; exact c1) (Ret.chk ?_ (hn _ ?_)))
    · unfold lim; simp only [List.length_map, List.length_take, List.length_cons, List.length_nil]; omega
    · rw [take_succ_el i0 i1, List.map_append]; rfl
  · rintro s next rfl
    dsimp only
    rw [if_neg (by simp), show ((A.length : Int)).toNat = A.length by omega, List.take_length]
    exact Ret.some rfl
end

theorem el_mapE {α β : Type} [Inhabited α] [Inhabited β] {l : List α} {f : α → β} {i : Int} (i0 : 0 ≤ i) (i1 : i < (l.length : Int)) : el (l.map f) i = f (el l i) := by
  have h : i.toNat < l.length := by omega
  unfold el
  rw [List.getD_eq_getElem?_getD, List.getD_eq_getElem?_getD, List.getElem?_map, List.getElem?_eq_getElem h]
  rfl

/-! ### the pairs -/
theorem flt_len {α : Type} {k : Int} {f : Int → List α} {b : Int} (hk : ∀ i, 0 ≤ i → i < k → ((f i).length : Int) ≤ b) (k0 : 0 ≤ k) : (((tab k f).flatten).length : Int) ≤ k * b := by
  obtain ⟨n, rfl⟩ : ∃ n : Nat, k = n := ⟨k.toNat, by omega⟩
  induction n with
  | zero => simp
  | succ n ih =>
    have ih := ih (fun i i0 i1 => hk i i0 (by push_cast; omega)) (by omega)
    have h := hk (n : Int) (by omega) (by push_cast; omega)
    push_cast
    rw [tab_succ _ (by omega), List.flatten_append, List.length_append, Int.add_mul]
    simp only [List.flatten_cons, List.flatten_nil, List.append_nil]
    push_cast
    omega
theorem flt_succ {α : Type} {k : Int} (f : Int → List α) (k0 : 0 ≤ k) : (tab (k + 1) f).flatten = (tab k f).flatten ++ f k := by
  rw [tab_succ _ k0, List.flatten_append]; simp
theorem mem_flt {α : Type} {k : Int} {f : Int → List α} {x : α} : x ∈ (tab k f).flatten ↔ ∃ i, 0 ≤ i ∧ i < k ∧ x ∈ f i := by
  rw [List.mem_flatten]
  constructor
  · rintro ⟨l, hl, hx⟩
    obtain ⟨i, i0, i1, rfl⟩ := mem_el hl
    rw [tab_length] at i1
    rw [el_tab i0 (by omega)] at hx
    exact ⟨i, i0, by omega, hx⟩
  · rintro ⟨i, i0, i1, hx⟩
    exact ⟨f i, by rw [← el_tab (f := f) i0 i1]; exact el_mem i0 (by rw [tab_length]; omega), hx⟩

variable {F : XSetFunctor}
noncomputable def obR (F : XSetFunctor) (n : Int) : List (List Int) := (tab n fun x => tab (el F.Sizes x) fun e => [x, e]).flatten
noncomputable def obE (F : XSetFunctor) : List (List Int) := obR F F.Shape.Objects
theorem obR_len (h : ShpG F) {n : Int} (n0 : 0 ≤ n) (n1 : n ≤ F.Shape.Objects) : ((obR F n).length : Int) ≤ n * 16 :=
  flt_len (fun i i0 i1 => by have := h.siz i i0 (by have := h.ls; omega); rw [tab_length]; omega) n0
theorem obR_succ {n : Int} (n0 : 0 ≤ n) : obR F (n + 1) = obR F n ++ tab (el F.Sizes n) fun e => [n, e] := flt_succ _ n0
theorem obE_mem {x : List Int} (hx : x ∈ obE F) : ∃ a e, x = [a, e] ∧ (0 ≤ a ∧ a < F.Shape.Objects) ∧ 0 ≤ e ∧ e < el F.Sizes a := by
  obtain ⟨a, a0, a1, hx⟩ := mem_flt.1 (show x ∈ (tab F.Shape.Objects fun x => tab (el F.Sizes x) fun e => [x, e]).flatten from hx)
  obtain ⟨e, e0, e1, rfl⟩ := mem_el hx
  rw [tab_length] at e1
  rw [el_tab e0 (by omega)]
  exact ⟨a, e, rfl, ⟨a0, a1⟩, e0, by omega⟩
noncomputable abbrev ox (F : XSetFunctor) (i : Int) : Int := el (el (obE F) i) 0
noncomputable abbrev oe (F : XSetFunctor) (i : Int) : Int := el (el (obE F) i) 1
theorem obE_at {i : Int} (i0 : 0 ≤ i) (i1 : i < ((obE F).length : Int)) : (el (obE F) i).length = 2 ∧ (0 ≤ ox F i ∧ ox F i < F.Shape.Objects) ∧ 0 ≤ oe F i ∧ oe F i < el F.Sizes (ox F i) := by
  obtain ⟨a, e, q, ha, he⟩ := obE_mem (el_mem i0 i1)
  unfold ox oe
  rw [q]
  exact ⟨rfl, ha, he⟩

theorem elements_r (h : ShpG F) : M.impl_SetFunctor_elements F = some ((obE F).length : Int) := by
  apply Ret.eq
  have ls := h.ls
  have n0 := h.cat.1.shp.n0
  have n8 := h.cat.1.shp.n8
  unfold M.impl_SetFunctor_elements
  refine Ret.loop (F.Sizes.length : Int) (fun i s => s = (i, ((obR F i).length : Int))) (by omega) (by omega) rfl ?_ ?_
  · rintro i s next i0 i1 rfl hn
    have L := obR_len h i0 (by omega)
    have z := h.siz i i0 i1
    dsimp only
    rw [if_pos (decide_eq_true i1)]
    refine Ret.idx i0 i1 (hn _ ?_)
    rw [wrap_in (by omega) (by omega), wrap_in (by omega) (by omega), obR_succ i0, List.length_append, tab_length]
    congr 1
    push_cast
    omega
  · rintro s next rfl
    dsimp only
    rw [if_neg (by simp), ls]
    exact Ret.some rfl

theorem elementPairs_r (h : ShpG F) : M.impl_SetFunctor_elementPairs F = some (obE F) := by
  apply Ret.eq
  have ls := h.ls
  have n0 := h.cat.1.shp.n0
  have n8 := h.cat.1.shp.n8
  unfold M.impl_SetFunctor_elementPairs
  refine Ret.acc (F.Sizes.length : Int) (fun i s => s = obR F i) (by omega) (by omega) rfl ?_ ?_
  · rintro i s next i0 i1 rfl hn
    have L := obR_len h i0 (by omega)
    have z := h.siz i i0 i1
    dsimp only
    rw [if_pos (decide_eq_true i1)]
    refine Ret.idx i0 i1 ?_
    refine Ret.acc (el F.Sizes i) (fun e s => s = obR F i ++ tab e fun e => [i, e]) z.1 (by omega) (by simp) ?_ ?_
    · rintro e s nx e0 e1 rfl hn2
      dsimp only
      rw [if_pos (decide_eq_true e1)]
      refine Ret.chk ?_ (hn2 _ ?_)
      · unfold lim; rw [List.length_append, tab_length]; omega
      · rw [tab_succ _ e0, List.append_assoc]
    · rintro s nx rfl
      dsimp only
      rw [if_neg (by simp)]
      exact hn _ (obR_succ i0).symm
  · rintro s next rfl
    dsimp only
    rw [if_neg (by simp), ls]
    exact Ret.some rfl

/-- The loops of spec that list the pairs. -/
theorem obs_r (h : ShpG F) {ρ : Type} {Q : ρ → Prop} {fin : List (List Int) × Int → Option ρ} (hfin : Ret (fin (obE F, F.Shape.Objects)) Q) :
    Ret (iter (fun (s1 : (List (List Int)) × Int) next2 =>
      if decide (s1.2 < F.Shape.Objects) then
        iter (fun (s6 : (List (List Int)) × Int) next7 =>
          (idx F.Sizes s1.2).bind fun y10 =>
          if decide (s6.2 < y10) then
            chk (s6.1.length + 1 ≤ lim) (
              next7 (s6.1 ++ [[s1.2, s6.2]], IntKind.i64.wrap (s6.2 + 1)))
          else
            next2 (s6.1, IntKind.i64.wrap (s1.2 + 1))) fuel (s1.1, 0)
      else
        fin s1) fuel (([] : List (List Int)), 0)) Q := by
  have ls := h.ls
  have n0 := h.cat.1.shp.n0
  have n8 := h.cat.1.shp.n8
  refine Ret.acc F.Shape.Objects (fun i s => s = obR F i) (by omega) (by omega) rfl ?_ ?_
  · rintro i s next i0 i1 rfl hn
    have L := obR_len h i0 (by omega)
    have z := h.siz i i0 (by omega)
    dsimp only
    rw [if_pos (decide_eq_true i1)]
    refine Ret.acc (el F.Sizes i) (fun e s => s = obR F i ++ tab e fun e => [i, e]) z.1 (by omega) (by simp) ?_ ?_
    · rintro e s nx e0 e1 rfl hn2
      dsimp only
      refine Ret.idx i0 (by omega) ?_
      rw [if_pos (decide_eq_true e1)]
      refine Ret.chk ?_ (hn2 _ ?_)
      · unfold lim; rw [List.length_append, tab_length]; omega
      · rw [tab_succ _ e0, List.append_assoc]
    · rintro s nx rfl
      dsimp only
      refine Ret.idx i0 (by omega) ?_
      rw [if_neg (by simp)]
      exact hn _ (obR_succ i0).symm
  · rintro s next rfl
    dsimp only
    rw [if_neg (by simp)]
    exact hfin

/-! ### the arrows between them -/
noncomputable def okA (F : XSetFunctor) (i j a : Int) : Bool := decide (act F a (oe F i) = oe F j)
noncomputable def hmE (F : XSetFunctor) (i j : Int) : List Int := homL F.Shape (ox F i) (ox F j)
noncomputable def sgE (F : XSetFunctor) (i j : Int) : List (List Int) := ((hmE F i j).filter (okA F i j)).map fun a => [i, j, a]
noncomputable def rwJ (F : XSetFunctor) (i n : Int) : List (List Int) := (tab n (sgE F i)).flatten
noncomputable def rwE (F : XSetFunctor) (n : Int) : List (List Int) := (tab n fun i => rwJ F i ((obE F).length : Int)).flatten
noncomputable def arE (F : XSetFunctor) : List (List Int) := rwE F ((obE F).length : Int)
theorem sgE_len (h : ShpG F) (i j : Int) : ((sgE F i j).length : Int) ≤ 40 := by
  have a := homL_len h.cat.1.shp (ox F i) (ox F j)
  have b := List.length_filter_le (okA F i j) (hmE F i j)
  unfold sgE
  rw [List.length_map]
  unfold hmE at *
  omega
theorem rwJ_len (h : ShpG F) (i : Int) {n : Int} (n0 : 0 ≤ n) (n1 : n ≤ 8) : ((rwJ F i n).length : Int) ≤ 320 := by
  have a := flt_len (fun j _ _ => sgE_len h i j) n0
  unfold rwJ; omega
theorem rwE_len (h : ShpG F) (h8 : ((obE F).length : Int) ≤ 8) {n : Int} (n0 : 0 ≤ n) (n1 : n ≤ 8) : ((rwE F n).length : Int) ≤ 2560 := by
  have a := flt_len (b := 320) (fun i _ _ => rwJ_len h i (n := ((obE F).length : Int)) (by omega) h8) n0
  unfold rwE; omega
theorem arE_len (h : ShpG F) (h8 : ((obE F).length : Int) ≤ 8) : ((arE F).length : Int) ≤ 2560 := rwE_len h h8 (by omega) h8
theorem arE_mem {x : List Int} : x ∈ arE F ↔ ∃ i j a, x = [i, j, a] ∧ (0 ≤ i ∧ i < ((obE F).length : Int)) ∧ (0 ≤ j ∧ j < ((obE F).length : Int)) ∧ a ∈ homL F.Shape (ox F i) (ox F j) ∧ act F a (oe F i) = oe F j := by
  unfold arE rwE rwJ sgE hmE okA
  constructor
  · intro hx
    obtain ⟨i, i0, i1, hx⟩ := mem_flt.1 hx
    obtain ⟨j, j0, j1, hx⟩ := mem_flt.1 hx
    obtain ⟨a, ha, rfl⟩ := List.mem_map.1 hx
    have ha := List.mem_filter.1 ha
    exact ⟨i, j, a, rfl, ⟨i0, i1⟩, ⟨j0, j1⟩, ha.1, of_decide_eq_true ha.2⟩
  · rintro ⟨i, j, a, rfl, ⟨i0, i1⟩, ⟨j0, j1⟩, ha, e⟩
    exact mem_flt.2 ⟨i, i0, i1, mem_flt.2 ⟨j, j0, j1, List.mem_map.2 ⟨a, List.mem_filter.2 ⟨ha, decide_eq_true e⟩, rfl⟩⟩⟩
theorem pw_el {A : List (List Int)} (h : A.Pairwise (· ≠ ·)) {i j : Int} (i0 : 0 ≤ i) (i1 : i < (A.length : Int)) (j0 : 0 ≤ j) (j1 : j < (A.length : Int)) (e : el A i = el A j) : i = j := by
  have hp := List.pairwise_iff_getElem.1 h
  have ei : el A i = A[i.toNat]'(by omega) := by unfold el; rw [List.getD_eq_getElem?_getD, List.getElem?_eq_getElem (by omega)]; rfl
  have ej : el A j = A[j.toNat]'(by omega) := by unfold el; rw [List.getD_eq_getElem?_getD, List.getElem?_eq_getElem (by omega)]; rfl
  rcases Int.lt_trichotomy i j with h1 | h1 | h1
  · exact absurd (by rw [← ei, ← ej]; exact e) (hp i.toNat j.toNat (by omega) (by omega) (by omega))
  · exact h1
  · exact absurd (by rw [← ei, ← ej]; exact e.symm) (hp j.toNat i.toNat (by omega) (by omega) (by omega))
theorem pw_flt {k : Int} {f : Int → List (List Int)} {c : Int} (h : ∀ i, (f i).Pairwise (· ≠ ·)) (hc : ∀ i, 0 ≤ i → i < k → ∀ x ∈ f i, el x c = i) : ((tab k f).flatten).Pairwise (· ≠ ·) := by
  rw [List.pairwise_flatten]
  refine ⟨fun l hl => ?_, ?_⟩
  · obtain ⟨i, i0, i1, rfl⟩ := mem_el hl
    rw [tab_length] at i1
    rw [el_tab i0 (by omega)]
    exact h i
  · unfold tab
    rw [List.pairwise_map]
    refine List.Pairwise.imp_of_mem (R := fun a b : Nat => a ≠ b) (fun {a b} ha hb hab x hx y hy e => ?_) List.nodup_range
    have h1 := hc a (by omega) (by have := List.mem_range.1 ha; omega) x hx
    have h2 := hc b (by omega) (by have := List.mem_range.1 hb; omega) y hy
    rw [e] at h1
    omega
theorem arE_pw : (arE F).Pairwise (· ≠ ·) := by
  unfold arE rwE
  refine pw_flt (c := 0) (fun i => ?_) (fun i i0 i1 x hx => ?_)
  · unfold rwJ
    refine pw_flt (c := 1) (fun j => ?_) (fun j j0 j1 x hx => ?_)
    · unfold sgE
      rw [List.pairwise_map]
      have nd : ((hmE F i j).filter (okA F i j)).Pairwise (· ≠ ·) := (show (hmE F i j).Pairwise (· ≠ ·) from homL_nodup _ _ _).filter _
      refine nd.imp fun hab e => hab ?_
      have e2 := List.cons.inj (List.cons.inj (List.cons.inj e).2).2
      exact e2.1
    · obtain ⟨a, _, rfl⟩ := List.mem_map.1 hx
      rfl
  · obtain ⟨j, _, _, hx⟩ := mem_flt.1 hx
    obtain ⟨a, _, rfl⟩ := List.mem_map.1 hx
    rfl
theorem arE_rws (h : ShpG F) (h8 : ((obE F).length : Int) ≤ 8) : Rws (arE F) 3 := by
  have L := arE_len h h8
  have m40 := h.cat.1.shp.m40
  refine ⟨by unfold Small; omega, fun x hx => ?_, fun x hx n hn => ?_, fun i j i0 i1 j0 j1 e => pw_el arE_pw i0 i1 j0 j1 e, by omega⟩
  · obtain ⟨i, j, a, rfl, _⟩ := arE_mem.1 hx; rfl
  · obtain ⟨i, j, a, rfl, hi, hj, ha, _⟩ := arE_mem.1 hx
    have ha := homL_mem.1 ha
    simp only [List.mem_cons, List.not_mem_nil, or_false] at hn
    rcases hn with rfl | rfl | rfl <;> omega

/-- The list of arrows after k of the arrows from i to j. -/
noncomputable def upE (F : XSetFunctor) (i j k : Int) : List (List Int) := rwE F i ++ rwJ F i j ++ (((hmE F i j).take k.toNat).filter (okA F i j)).map fun a => [i, j, a]
theorem upE_zero (i j : Int) : upE F i j 0 = rwE F i ++ rwJ F i j := by unfold upE; simp
theorem upE_all {i j : Int} (j0 : 0 ≤ j) : upE F i j ((hmE F i j).length : Int) = rwE F i ++ rwJ F i (j + 1) := by
  unfold upE rwJ
  rw [flt_succ _ j0, show (((hmE F i j).length : Int)).toNat = (hmE F i j).length by omega, List.take_length, List.append_assoc]
  rfl
theorem upE_yes {i j k : Int} (k0 : 0 ≤ k) (k1 : k < ((hmE F i j).length : Int)) (h : okA F i j (el (hmE F i j) k) = true) : upE F i j (k + 1) = upE F i j k ++ [[i, j, el (hmE F i j) k]] := by
  unfold upE
  rw [take_succ_el k0 k1, List.filter_append, List.map_append, List.filter_cons, if_pos h, List.append_assoc]
  simp
theorem upE_no {i j k : Int} (k0 : 0 ≤ k) (k1 : k < ((hmE F i j).length : Int)) (h : ¬ okA F i j (el (hmE F i j) k) = true) : upE F i j (k + 1) = upE F i j k := by
  unfold upE
  rw [take_succ_el k0 k1, List.filter_append, List.map_append, List.filter_cons, if_neg h]
  simp
theorem rwE_succ {i : Int} (i0 : 0 ≤ i) : rwE F (i + 1) = rwE F i ++ rwJ F i ((obE F).length : Int) := by
  unfold rwE
  rw [flt_succ _ i0]
theorem upE_len (h : ShpG F) (h8 : ((obE F).length : Int) ≤ 8) {i j k : Int} (i0 : 0 ≤ i) (i1 : i < ((obE F).length : Int)) (j0 : 0 ≤ j) (j1 : j < ((obE F).length : Int)) : ((upE F i j k).length : Int) ≤ 3000 := by
  have a := rwE_len h h8 i0 (by omega)
  have b := rwJ_len h i j0 (by omega)
  have d := homL_len h.cat.1.shp (ox F i) (ox F j)
  have f := List.length_filter_le (okA F i j) ((hmE F i j).take k.toNat)
  have g : ((hmE F i j).take k.toNat).length ≤ (hmE F i j).length := by rw [List.length_take]; omega
  unfold upE
  rw [List.length_append, List.length_append, List.length_map]
  unfold hmE at *
  omega
/-- What stands in the tables for an arrow from i to j. -/
theorem hmE_at (h : ShpG F) {i j k : Int} (hi : 0 ≤ i ∧ i < ((obE F).length : Int)) (k0 : 0 ≤ k) (k1 : k < ((hmE F i j).length : Int)) :
    (0 ≤ el (hmE F i j) k ∧ el (hmE F i j) k < (F.Actions.length : Int)) ∧ oe F i < ((el F.Actions (el (hmE F i j) k)).length : Int) := by
  have ha := homL_mem.1 (show el (hmE F i j) k ∈ homL F.Shape (ox F i) (ox F j) from el_mem k0 k1)
  have la := h.la
  have q := (h.act _ ha.1 (by omega)).1
  rw [ha.2.2.1] at q
  have o := obE_at hi.1 hi.2
  exact ⟨⟨ha.1, by omega⟩, by omega⟩

/-- The loops of spec that list the arrows. -/
theorem ars_r (h : ShpG F) (h8 : ((obE F).length : Int) ≤ 8) {ρ : Type} {Q : ρ → Prop} {fin : List (List Int) × Int → Option ρ} (hfin : Ret (fin (arE F, ((obE F).length : Int))) Q) :
    Ret (iter (fun (s14 : (List (List Int)) × Int) next15 =>
          if decide (s14.2 < ((obE F).length : Int)) then
            iter (fun (s19 : (List (List Int)) × Int) next20 =>
              if decide (s19.2 < ((obE F).length : Int)) then
                (idx (obE F) s14.2).bind fun y24 =>
                (idx (obE F) s19.2).bind fun y25 =>
                (idx y24 0).bind fun y26 =>
                (idx y25 0).bind fun y27 =>
                (M.spec_l02Hom F.Shape y26 y27).bind fun v28 =>
                iter (fun (s29 : (List (List Int)) × Int) next30 =>
                  if decide (s29.2 < (v28.length : Int)) then
                    (idx v28 s29.2).bind fun y34 =>
                    (idx F.Actions y34).bind fun y35 =>
                    (idx y24 1).bind fun y36 =>
                    (idx y35 y36).bind fun y37 =>
                    (idx y25 1).bind fun y38 =>
                    if y37 == y38 then
                      chk (s29.1.length + 1 ≤ lim) (
                        next30 (s29.1 ++ [[s14.2, s19.2, y34]], IntKind.i64.wrap (s29.2 + 1)))
                    else
                      next30 (s29.1, IntKind.i64.wrap (s29.2 + 1))
                  else
                    next20 (s29.1, IntKind.i64.wrap (s19.2 + 1))) fuel (s19.1, 0)
              else
                next15 (s19.1, IntKind.i64.wrap (s14.2 + 1))) fuel (s14.1, 0)
          else
            fin s14) fuel (([] : List (List Int)), 0)) Q := by
  refine Ret.acc ((obE F).length : Int) (fun i s => s = rwE F i) (by omega) (by omega) rfl ?_ ?_
  · rintro i s next i0 i1 rfl hn
    have oi := obE_at i0 i1
    dsimp only
    rw [if_pos (decide_eq_true i1)]
    refine Ret.acc ((obE F).length : Int) (fun j s => s = rwE F i ++ rwJ F i j) (by omega) (by omega) (by unfold rwJ; simp) ?_ ?_
    · rintro j s nx j0 j1 rfl hn2
      have oj := obE_at j0 j1
      have hl := homL_len h.cat.1.shp (ox F i) (ox F j)
      dsimp only
      rw [if_pos (decide_eq_true j1)]
      refine Ret.idx i0 i1 (Ret.idx j0 j1 (Ret.idx (by omega) (by omega) (Ret.idx (by omega) (by omega) (Ret.call (show M.spec_l02Hom F.Shape _ _ = some (hmE F i j) from l02Hom_eq h.cat.1.shp _ _) ?_))))
      refine Ret.acc ((hmE F i j).length : Int) (fun k s => s = upE F i j k) (by omega) (by unfold hmE; omega) (upE_zero i j).symm ?_ ?_
      · rintro k s nx2 k0 k1 rfl hn3
        have ha := hmE_at h ⟨i0, i1⟩ k0 k1
        have L := upE_len h h8 i0 i1 j0 j1 (k := k)
        dsimp only
        rw [if_pos (decide_eq_true k1)]
        refine Ret.idx k0 k1 (Ret.idx ha.1.1 ha.1.2 (Ret.idx (by omega) (by omega) (Ret.idx oi.2.2.1 ha.2 (Ret.idx (by omega) (by omega) (Ret.ite (fun q => Ret.chk ?_ (hn3 _ ?_)) (fun q => hn3 _ ?_))))))
        · unfold lim; omega
        · exact (upE_yes k0 k1 (decide_eq_true (beq_iff_eq.1 q))).symm
        · exact (upE_no k0 k1 fun z => q (beq_iff_eq.2 (of_decide_eq_true z))).symm
      · rintro s nx2 rfl
        dsimp only
        rw [if_neg (by simp)]
        exact hn2 _ (upE_all j0)
    · rintro s nx rfl
      dsimp only
      rw [if_neg (by simp)]
      exact hn _ (rwE_succ i0).symm
  · rintro s next rfl
    dsimp only
    rw [if_neg (by simp)]
    exact hfin
/-- The loops of impl that list the arrows. -/
theorem ari_r (h : ShpG F) (h8 : ((obE F).length : Int) ≤ 8) {ρ : Type} {Q : ρ → Prop} {fin : List (List Int) × Int → Option ρ} (hfin : Ret (fin (arE F, ((obE F).length : Int))) Q) :
    Ret (iter (fun (s4 : (List (List Int)) × Int) next5 =>
      if decide (s4.2 < ((obE F).length : Int)) then
        (idx (obE F) s4.2).bind fun y9 =>
        iter (fun (s10 : (List (List Int)) × Int) next11 =>
          if decide (s10.2 < ((obE F).length : Int)) then
            (idx (obE F) s10.2).bind fun y15 =>
            (idx y9 0).bind fun y16 =>
            (idx y15 0).bind fun y17 =>
            (M.impl_Category_hom F.Shape y16 y17).bind fun v18 =>
            iter (fun (s19 : (List (List Int)) × Int) next20 =>
              if decide (s19.2 < (v18.length : Int)) then
                (idx v18 s19.2).bind fun y24 =>
                (idx F.Actions y24).bind fun y25 =>
                (idx y9 1).bind fun y26 =>
                (idx y25 y26).bind fun y27 =>
                (idx y15 1).bind fun y28 =>
                if y27 == y28 then
                  chk (s19.1.length + 1 ≤ lim) (
                    next20 (s19.1 ++ [[s4.2, s10.2, y24]], IntKind.i64.wrap (s19.2 + 1)))
                else
                  next20 (s19.1, IntKind.i64.wrap (s19.2 + 1))
              else
                next11 (s19.1, IntKind.i64.wrap (s10.2 + 1))) fuel (s10.1, 0)
          else
            next5 (s10.1, IntKind.i64.wrap (s4.2 + 1))) fuel (s4.1, 0)
      else
        fin s4) fuel (([] : List (List Int)), 0)) Q := by
  refine Ret.acc ((obE F).length : Int) (fun i s => s = rwE F i) (by omega) (by omega) rfl ?_ ?_
  · rintro i s next i0 i1 rfl hn
    have oi := obE_at i0 i1
    dsimp only
    rw [if_pos (decide_eq_true i1)]
    refine Ret.idx i0 i1 ?_
    refine Ret.acc ((obE F).length : Int) (fun j s => s = rwE F i ++ rwJ F i j) (by omega) (by omega) (by unfold rwJ; simp) ?_ ?_
    · rintro j s nx j0 j1 rfl hn2
      have oj := obE_at j0 j1
      have hl := homL_len h.cat.1.shp (ox F i) (ox F j)
      dsimp only
      rw [if_pos (decide_eq_true j1)]
      refine Ret.idx j0 j1 (Ret.idx (by omega) (by omega) (Ret.idx (by omega) (by omega) (Ret.call (show M.impl_Category_hom F.Shape _ _ = some (hmE F i j) from hom_eq h.cat.1.shp _ _) ?_)))
      refine Ret.acc ((hmE F i j).length : Int) (fun k s => s = upE F i j k) (by omega) (by unfold hmE; omega) (upE_zero i j).symm ?_ ?_
      · rintro k s nx2 k0 k1 rfl hn3
        have ha := hmE_at h ⟨i0, i1⟩ k0 k1
        have L := upE_len h h8 i0 i1 j0 j1 (k := k)
        dsimp only
        rw [if_pos (decide_eq_true k1)]
        refine Ret.idx k0 k1 (Ret.idx ha.1.1 ha.1.2 (Ret.idx (by omega) (by omega) (Ret.idx oi.2.2.1 ha.2 (Ret.idx (by omega) (by omega) (Ret.ite (fun q => Ret.chk ?_ (hn3 _ ?_)) (fun q => hn3 _ ?_))))))
        · unfold lim; omega
        · exact (upE_yes k0 k1 (decide_eq_true (beq_iff_eq.1 q))).symm
        · exact (upE_no k0 k1 fun z => q (beq_iff_eq.2 (of_decide_eq_true z))).symm
      · rintro s nx2 rfl
        dsimp only
        rw [if_neg (by simp)]
        exact hn2 _ (upE_all j0)
    · rintro s nx rfl
      dsimp only
      rw [if_neg (by simp)]
      exact hn _ (rwE_succ i0).symm
  · rintro s next rfl
    dsimp only
    rw [if_neg (by simp)]
    exact hfin

/-! ### the category of elements -/
theorem id_in_arE (h : IsSet F) {i : Int} (i0 : 0 ≤ i) (i1 : i < ((obE F).length : Int)) : [i, i, el F.Shape.Identity (ox F i)] ∈ arE F := by
  have o := obE_at i0 i1
  have hS := h.1.cat.1.shp
  have q := hS.id_in _ o.2.1.1 o.2.1.2
  exact arE_mem.2 ⟨i, i, _, rfl, ⟨i0, i1⟩, ⟨i0, i1⟩, homL_mem.2 ⟨q.1, q.2, hS.id_from _ o.2.1.1 o.2.1.2, hS.id_to _ o.2.1.1 o.2.1.2⟩, h.2.1 _ o.2.1.1 o.2.1.2 _ o.2.2.1 o.2.2.2⟩
/-- The parts of arrow a. -/
noncomputable abbrev ap (F : XSetFunctor) (a k : Int) : Int := el (el (arE F) a) k
theorem ar_at {a : Int} (a0 : 0 ≤ a) (a1 : a < ((arE F).length : Int)) : el (arE F) a = [ap F a 0, ap F a 1, ap F a 2] ∧ (0 ≤ ap F a 0 ∧ ap F a 0 < ((obE F).length : Int)) ∧ (0 ≤ ap F a 1 ∧ ap F a 1 < ((obE F).length : Int)) ∧
    ap F a 2 ∈ homL F.Shape (ox F (ap F a 0)) (ox F (ap F a 1)) ∧ act F (ap F a 2) (oe F (ap F a 0)) = oe F (ap F a 1) := by
  obtain ⟨i, j, f, q, hi, hj, hf, e⟩ := arE_mem.1 (el_mem a0 a1)
  unfold ap
  rw [q]
  exact ⟨rfl, hi, hj, hf, e⟩
noncomputable def cm3 (F : XSetFunctor) (a b : Int) : List Int := [ap F a 0, ap F b 1, cmp F.Shape (ap F a 2) (ap F b 2)]
theorem cm3_in (h : IsSet F) {a b : Int} (a0 : 0 ≤ a) (a1 : a < ((arE F).length : Int)) (b0 : 0 ≤ b) (b1 : b < ((arE F).length : Int)) (e : ap F a 1 = ap F b 0) : cm3 F a b ∈ arE F := by
  have hS := h.1.cat.1.shp
  obtain ⟨_, ai, aj, af, ae⟩ := ar_at a0 a1
  obtain ⟨_, bi, bj, bf, be⟩ := ar_at b0 b1
  have af := homL_mem.1 af
  have bf := homL_mem.1 bf
  have o := obE_at ai.1 ai.2
  have m : el F.Shape.To (ap F a 2) = el F.Shape.From (ap F b 2) := by rw [af.2.2.2, bf.2.2.1, e]
  have y := hS.yes _ _ af.1 af.2.1 bf.1 bf.2.1 m
  refine arE_mem.2 ⟨_, _, _, rfl, ai, bj, homL_mem.2 ⟨y.1, y.2, ?_, ?_⟩, ?_⟩
  · rw [hS.cfrom _ _ af.1 af.2.1 bf.1 bf.2.1 m, af.2.2.1]
  · rw [hS.cto _ _ af.1 af.2.1 bf.1 bf.2.1 m, bf.2.2.2]
  · rw [h.2.2 _ af.1 af.2.1 _ bf.1 bf.2.1 m _ o.2.2.1 (by rw [af.2.2.1]; exact o.2.2.2), ae, e, be]
noncomputable def idE (F : XSetFunctor) : List Int := tab ((obE F).length : Int) fun i => plcE (arE F) [i, i, el F.Shape.Identity (ox F i)]
noncomputable def cpE (F : XSetFunctor) : List (List Int) := tab ((arE F).length : Int) fun a => tab ((arE F).length : Int) fun b => if ap F a 1 = ap F b 0 then plcE (arE F) (cm3 F a b) else -1
noncomputable def colE (F : XSetFunctor) (k : Int) : List Int := (arE F).map fun x => el x k
/-- The category of elements. -/
noncomputable def elC (F : XSetFunctor) : XCategory := ⟨((obE F).length : Int), colE F 0, colE F 1, idE F, cpE F⟩
def FitE (F : XSetFunctor) : Prop := ((obE F).length : Int) ≤ 8 ∧ ((arE F).length : Int) ≤ 40
theorem colE_el {k a : Int} (a0 : 0 ≤ a) (a1 : a < ((arE F).length : Int)) : el (colE F k) a = ap F a k := el_mapE a0 a1
theorem colE_len (k : Int) : (colE F k).length = (arE F).length := by unfold colE; rw [List.length_map]

theorem l20Elements_r (h : IsSet F) : M.spec_l20Elements F = some (if FitE F then (⟨elC F, obE F, arE F⟩, true) else ((⟨(⟨0, [], [], [], []⟩ : XCategory), [], []⟩ : Xl20Space), false)) := by
  apply Ret.eq
  have hS := h.1.cat.1.shp
  have n8 := hS.n8
  have lid := hS.lid
  unfold M.spec_l20Elements
  refine obs_r h.1 ?_
  dsimp only
  refine Ret.ite (fun q => Ret.some ?_) (fun q => ?_)
  · rw [if_neg fun z : FitE F => by have := z.1; have := of_decide_eq_true q; omega]
  have h8 : ((obE F).length : Int) ≤ 8 := Int.not_lt.1 fun z => q (decide_eq_true z)
  have R := arE_rws h.1 h8
  refine ars_r h.1 h8 ?_
  dsimp only
  refine Ret.ite (fun q => Ret.some ?_) (fun q => ?_)
  · rw [if_neg fun z : FitE F => by have := z.2; have := of_decide_eq_true q; omega]
  have h40 : ((arE F).length : Int) ≤ 40 := Int.not_lt.1 fun z => q (decide_eq_true z)
  have hf : FitE F := ⟨h8, h40⟩
  rw [if_pos hf]
  refine Ret.acc ((obE F).length : Int) (fun i s => s = tab i fun i => plcE (arE F) [i, i, el F.Shape.Identity (ox F i)]) (by omega) (by omega) rfl ?_ ?_
  · rintro i s next i0 i1 rfl hn
    have o := obE_at i0 i1
    dsimp only
    rw [if_pos (decide_eq_true i1)]
    refine Ret.idx i0 i1 (Ret.idx (by omega) (by omega) (Ret.idx o.2.1.1 (Int.lt_of_lt_of_le o.2.1.2 (Int.le_of_eq lid.symm)) (Ret.call (R.plc_s (id_in_arE h i0 i1)) (Ret.chk ?_ (hn _ (tab_succ _ i0).symm)))))
    unfold lim; rw [tab_length]; simp only [List.length_cons, List.length_nil]; omega
  · rintro s next rfl
    dsimp only
    rw [if_neg (by simp)]
    refine Ret.loop ((arE F).length : Int) (fun a s => s = ((colE F 0).take a.toNat, (colE F 1).take a.toNat, (tab a fun a => tab ((arE F).length : Int) fun b => if ap F a 1 = ap F b 0 then plcE (arE F) (cm3 F a b) else -1), a)) (by omega) (by omega) (by simp) ?_ ?_
    · rintro a s nx a0 a1 rfl hn
      have ra := ar_at a0 a1
      have la := R.len _ (el_mem a0 a1)
      dsimp only
      rw [if_pos (decide_eq_true a1)]
      refine Ret.idx a0 a1 (Ret.idx (by omega) (by omega) (Ret.chk ?_ (Ret.idx (by omega) (by omega) (Ret.chk ?_ ?_))))
      · unfold lim; rw [List.length_take, colE_len]; simp only [List.length_cons, List.length_nil]; omega
      · unfold lim; rw [List.length_take, colE_len]; simp only [List.length_cons, List.length_nil]; omega
      refine Ret.acc ((arE F).length : Int) (fun b s => s = tab b fun b => if ap F a 1 = ap F b 0 then plcE (arE F) (cm3 F a b) else -1) (by omega) (by omega) rfl ?_ ?_
      · rintro b s nx2 b0 b1 rfl hn2
        have rb := ar_at b0 b1
        have lb := R.len _ (el_mem b0 b1)
        have fa := homL_mem.1 ra.2.2.2.1
        have fb := homL_mem.1 rb.2.2.2.1
        dsimp only
        rw [if_pos (decide_eq_true b1)]
        refine Ret.idx b0 b1 (Ret.idx (by omega) (by omega) (Ret.ite (fun q => ?_) (fun q => Ret.chk ?_ (hn2 _ ?_))))
        · have q : ap F a 1 = ap F b 0 := beq_iff_eq.1 q
          refine Ret.idx (by omega) (by omega) (Ret.idx (by omega) (by omega) (Ret.idx (by omega) (by omega) (Ret.call (l02Then_in hS ⟨fa.1, fa.2.1⟩ ⟨fb.1, fb.2.1⟩) (Ret.call (R.plc_s (show _ ∈ arE F from cm3_in h a0 a1 b0 b1 q)) (Ret.chk ?_ (hn2 _ ?_))))))
          · unfold lim; rw [tab_length]; simp only [List.length_cons, List.length_nil]; omega
          · rw [tab_succ _ b0, if_pos q]; rfl
        · unfold lim; rw [tab_length]; simp only [List.length_cons, List.length_nil]; omega
        · rw [tab_succ _ b0, if_neg fun z => q (beq_iff_eq.2 z)]
      · rintro s nx2 rfl
        dsimp only
        rw [if_neg (by simp)]
        refine Ret.chk ?_ (hn _ ?_)
        · unfold lim; rw [tab_length]; omega
        · rw [wrap_in (by omega) (by omega), tab_succ _ a0, take_succ_el a0 (by rw [colE_len]; exact a1), take_succ_el a0 (by rw [colE_len]; exact a1), colE_el a0 a1, colE_el a0 a1]
    · rintro s nx rfl
      dsimp only
      rw [if_neg (by simp)]
      refine Ret.some ?_
      have e0 : (colE F 0).take ((arE F).length : Int).toNat = colE F 0 := List.take_of_length_le (by rw [colE_len]; omega)
      have e1 : (colE F 1).take ((arE F).length : Int).toNat = colE F 1 := List.take_of_length_le (by rw [colE_len]; omega)
      rw [e0, e1]
      rfl

theorem elC_small (hf : FitE F) : SmallC (elC F) := by
  have := hf.1
  have := hf.2
  refine ⟨?_, ?_, ?_, ?_, fun r hr => ?_⟩
  · show Small (colE F 0); unfold Small; rw [colE_len]; omega
  · show Small (colE F 1); unfold Small; rw [colE_len]; omega
  · show Small (idE F); unfold Small idE; rw [tab_length]; omega
  · show Small (cpE F); unfold Small cpE; rw [tab_length]; omega
  · obtain ⟨i, i0, i1, rfl⟩ := mem_el hr
    have i1 : i < (((cpE F).length : Nat) : Int) := i1
    unfold cpE at i1
    rw [tab_length] at i1
    show Small (el (cpE F) i)
    unfold cpE
    rw [el_tab i0 (by omega)]
    unfold Small
    rw [tab_length]; omega

theorem tableE_eq {G : XSetFunctor} {o A : List (List Int)} {p q : List (ByteArray × Int)} {c : XCategory} {v : Int → Int → Int} (hm : (c.From.length : Int) ≤ 40) (ht : (c.To.length : Int) = (c.From.length : Int))
    (hg : ∀ i j, 0 ≤ i → i < (c.From.length : Int) → 0 ≤ j → j < (c.From.length : Int) → el c.To i = el c.From j → M.impl_SetFunctor_elementsCategory_1 i j (⟨(), (), (), (), (), (), A, (), q⟩ : Xgrothendieck_q) G.Shape = some (v i j)) :
    M.impl_Category_table_grothendieck (⟨c, o, A, p, q⟩ : Xgrothendieck) G = some (⟨⟨c.Objects, c.From, c.To, c.Identity, tab (c.From.length : Int) fun i => tab (c.From.length : Int) fun j => if el c.To i = el c.From j then v i j else -1⟩, o, A, p, q⟩ : Xgrothendieck) := by
  apply Ret.eq
  unfold M.impl_Category_table_grothendieck M.impl_Category_arrows
  dsimp only
  simp only [Option.bind_some]
  refine Ret.chk ⟨by omega, by unfold lim; omega⟩ ?_
  simp only [List.length_replicate]
  have e1 : (((c.From.length : Int).toNat : Nat) : Int) = (c.From.length : Int) := by omega
  simp only [e1]
  refine Ret.acc (c.From.length : Int) (fun i a => a = tab (c.From.length : Int) fun k => if k < i then (tab (c.From.length : Int) fun j => if el c.To k = el c.From j then v k j else -1) else []) (by omega) (by omega) ?_ ?_ ?_
  · rw [rep_tab]; apply tab_congr; intro j h0 h1; rw [if_neg (by omega)]
  · rintro i a next hi0 hi1 rfl hn1
    dsimp only
    simp only [decide_eq_true_eq]
    rw [if_pos hi1, set_tab hi0, rep_tab]
    refine Ret.idx hi0 (by rw [tab_length]; omega) ?_
    refine Ret.idx hi0 (by rw [tab_length]; omega) ?_
    rw [el_tab hi0 hi1]
    simp only [if_true, tab_length, e1]
    refine Ret.acc (c.From.length : Int) (fun j a => a = tab (c.From.length : Int) fun k => if k = i then (tab (c.From.length : Int) fun l => if l < j then (if el c.To k = el c.From l then v k l else -1) else 0) else if k < i then (tab (c.From.length : Int) fun j => if el c.To k = el c.From j then v k j else -1) else []) (by omega) (by omega) ?_ ?_ ?_
    · apply tab_congr
      intro k hk0 hk1
      by_cases hk : k = i
      · simp only [hk, if_true]
        apply tab_congr; intro l hl0 hl1; rw [if_neg (by omega)]
      · simp only [if_neg hk]
    · rintro j a next' hj0 hj1 rfl hn2
      dsimp only
      rw [if_pos hj1]
      refine Ret.idx hi0 (by rw [tab_length]; omega) ?_
      rw [el_tab hi0 hi1]
      simp only [if_true]
      refine Ret.idx hj0 (by rw [tab_length]; omega) ?_
      refine Ret.idx hi0 (by omega) (Ret.idx hj0 hj1 ?_)
      refine Ret.ite (fun hb => ?_) (fun hb => ?_)
      · have hb' : el c.To i = el c.From j := by simpa using hb
        simp only [set_tab hi0, set_tab hj0]
        refine Ret.idx hi0 (by rw [tab_length]; omega) ?_
        rw [el_tab hi0 hi1]
        simp only [if_true]
        refine Ret.call (hg i j hi0 hi1 hj0 hj1 hb') ?_
        refine Ret.idx hj0 (by rw [tab_length]; omega) (hn2 _ ?_)
        simp only [set_tab hj0]
        apply tab_congr
        intro k hk0 hk1
        by_cases hk : k = i
        · simp only [hk, if_true]
          apply tab_congr; intro l hl0 hl1
          by_cases hl : l = j
          · subst hl; rw [if_pos rfl, if_pos (show l < l + 1 by omega), if_pos hb']
          · simp only [if_neg hl]
            by_cases hlj : l < j
            · rw [if_pos hlj, if_pos (show l < j + 1 by omega)]
            · rw [if_neg hlj, if_neg (show ¬ l < j + 1 by omega)]
        · simp only [if_neg hk]
      · have hb' : ¬ el c.To i = el c.From j := by simpa using hb
        simp only [set_tab hi0, set_tab hj0]
        refine hn2 _ ?_
        apply tab_congr
        intro k hk0 hk1
        by_cases hk : k = i
        · simp only [hk, if_true]
          apply tab_congr; intro l hl0 hl1
          by_cases hl : l = j
          · subst hl; rw [if_pos rfl, if_pos (show l < l + 1 by omega), if_neg hb']
          · simp only [if_neg hl]
            by_cases hlj : l < j
            · rw [if_pos hlj, if_pos (show l < j + 1 by omega)]
            · rw [if_neg hlj, if_neg (show ¬ l < j + 1 by omega)]
        · simp only [if_neg hk]
    · rintro a next' rfl
      dsimp only
      rw [if_neg (by omega)]
      refine hn1 _ ?_
      apply tab_congr
      intro k hk0 hk1
      by_cases hk : k = i
      · subst hk
        simp only [if_true]
        rw [if_pos (by omega)]
        apply tab_congr; intro l hl0 hl1; rw [if_pos (by omega)]
      · simp only [if_neg hk]
        by_cases hlt : k < i
        · rw [if_pos hlt, if_pos (by omega)]
        · rw [if_neg hlt, if_neg (by omega)]
  · rintro a next rfl
    dsimp only
    simp only [decide_eq_true_eq]
    rw [if_neg (by omega)]
    refine Ret.some ?_
    congr 1
    congr 1
    apply tab_congr
    intro k hk0 hk1
    rw [if_pos hk1]

theorem elementsCategory_r (h : IsSet F) : Ret (M.impl_SetFunctor_elementsCategory F) fun r => if FitE F then r.2 = true ∧ r.1.category_ = elC F ∧ r.1.objects_ = obE F ∧ r.1.arrows_ = arE F else r.2 = false := by
  have hS := h.1.cat.1.shp
  have n8 := hS.n8
  have lid := hS.lid
  unfold M.impl_SetFunctor_elementsCategory
  refine Ret.call (elements_r h.1) (Ret.ite (fun q => Ret.some ?_) (fun q => ?_))
  · rw [if_neg fun z : FitE F => by have := z.1; have := of_decide_eq_true q; omega]
  have h8 : ((obE F).length : Int) ≤ 8 := Int.not_lt.1 fun z => q (decide_eq_true z)
  have R := arE_rws h.1 h8
  refine Ret.call (elementPairs_r h.1) (ari_r h.1 h8 ?_)
  dsimp only
  refine Ret.ite (fun q => Ret.some ?_) (fun q => ?_)
  · rw [if_neg fun z : FitE F => by have := z.2; have := of_decide_eq_true q; omega]
  have h40 : ((arE F).length : Int) ≤ 40 := Int.not_lt.1 fun z => q (decide_eq_true z)
  have hf : FitE F := ⟨h8, h40⟩
  refine Ret.mono (P := fun r => r.2 = true ∧ r.1.category_ = elC F ∧ r.1.objects_ = obE F ∧ r.1.arrows_ = arE F) ?_ fun r hr => by rw [if_pos hf]; exact hr
  refine Ret.bind (places_some (A := obE F) (by unfold Small; omega) fun x hx => by obtain ⟨a, e, rfl, _⟩ := obE_mem hx; simp) fun m0 _ => ?_
  refine Ret.bind (places_r R.sm R.l9 R.key) fun m hm => ?_
  refine Ret.call (column_e R.sm R.len (by decide) (by decide)) (Ret.call (column_e R.sm R.len (by decide) (by decide)) ?_)
  refine Ret.acc ((obE F).length : Int) (fun i s => s = tab i fun i => plcE (arE F) [i, i, el F.Shape.Identity (ox F i)]) (by omega) (by omega) rfl ?_ ?_
  · rintro i s next i0 i1 rfl hn
    have o := obE_at i0 i1
    dsimp only
    rw [if_pos (decide_eq_true i1)]
    refine Ret.idx i0 i1 (Ret.idx (by omega) (by omega) (Ret.idx o.2.1.1 (Int.lt_of_lt_of_le o.2.1.2 (Int.le_of_eq lid.symm)) (Ret.call (key_eq (by simp)) (Ret.chk ?_ (hn _ ?_)))))
    · unfold lim; rw [tab_length]; simp only [List.length_cons, List.length_nil]; omega
    · rw [tab_succ _ i0, plc_m hm (id_in_arE h i0 i1)]
  · rintro s next rfl
    dsimp only
    rw [if_neg (by simp)]
    have L0 : (((colE F 0).length : Nat) : Int) = ((arE F).length : Int) := by rw [colE_len]
    refine Ret.call (tableE_eq (v := fun a b => plcE (arE F) (cm3 F a b)) (c := ⟨((obE F).length : Int), colE F 0, colE F 1, idE F, []⟩) (by show (((colE F 0).length : Nat) : Int) ≤ 40; omega) (by show (((colE F 1).length : Nat) : Int) = (((colE F 0).length : Nat) : Int); rw [colE_len, colE_len]) ?_) (Ret.some ?_)
    · intro i j i0 i1 j0 j1 e
      have i1 : i < (((colE F 0).length : Nat) : Int) := i1
      have j1 : j < (((colE F 0).length : Nat) : Int) := j1
      have e : el (colE F 1) i = el (colE F 0) j := e
      rw [L0] at i1 j1
      rw [colE_el i0 i1, colE_el j0 j1] at e
      have ra := ar_at i0 i1
      have rb := ar_at j0 j1
      have la := R.len _ (el_mem i0 i1)
      have lb := R.len _ (el_mem j0 j1)
      have fa := homL_mem.1 ra.2.2.2.1
      have fb := homL_mem.1 rb.2.2.2.1
      apply Ret.eq
      unfold M.impl_SetFunctor_elementsCategory_1
      dsimp only
      refine Ret.idx i0 i1 (Ret.idx j0 j1 (Ret.idx (by omega) (by omega) (Ret.idx (by omega) (by omega) (Ret.idx (by omega) (by omega) (Ret.idx (by omega) (by omega) (Ret.call (then_in hS ⟨fa.1, fa.2.1⟩ ⟨fb.1, fb.2.1⟩) (Ret.call (key_eq (by simp)) (Ret.some ?_))))))))
      exact plc_m hm (show _ ∈ arE F from cm3_in h i0 i1 j0 j1 e)
    · refine ⟨rfl, ?_, rfl, rfl⟩
      dsimp only
      rw [L0]
      unfold elC cpE
      congr 1
      apply tab_congr
      intro i i0 i1
      apply tab_congr
      intro j j0 j1
      rw [colE_el i0 i1, colE_el j0 j1]

theorem ElementsProjection_both {F : XSetFunctor} (s : SmallG F) : ∃ g w, SmallF g ∧ M.spec_ElementsProjection F = some (g, w) ∧ M.impl_ElementsProjection F = some (g, w) := by
  by_cases h : IsSet F
  · obtain ⟨⟨k, ok⟩, ei, hk⟩ := elementsCategory_r h
    by_cases hf : FitE F
    · rw [if_pos hf] at hk
      obtain ⟨rfl, k1, k2, k3⟩ := hk
      have h8 := hf.1
      have h40 := hf.2
      have R := arE_rws h.1 h8
      have sO : Small (obE F) := by unfold Small; omega
      have lO : ∀ x ∈ obE F, x.length = 2 := fun x hx => by obtain ⟨a, e, rfl, _⟩ := obE_mem hx; rfl
      have s1 : Small ((obE F).map fun x => el x 0) := by unfold Small; rw [List.length_map]; omega
      have s2 : Small (colE F 2) := by unfold Small; rw [colE_len]; omega
      refine ⟨⟨elC F, F.Shape, (obE F).map fun x => el x 0, colE F 2⟩, 0, ⟨elC_small hf, s.s1, s1, s2⟩, ?_, ?_⟩
      · apply Ret.eq
        unfold M.spec_ElementsProjection
        rw [l19Is_eq s, decide_eq_true h, Option.bind_some, if_pos rfl]
        refine Ret.call (l20Elements_r h) ?_
        rw [if_pos hf]
        dsimp only
        rw [if_pos rfl]
        refine Ret.acc ((obE F).length : Int) (fun i s => s = ((obE F).take i.toNat).map fun x => el x 0) (by omega) (by omega) (by simp) ?_ ?_
        · rintro i s next i0 i1 rfl hn
          have lo := lO _ (el_mem i0 i1)
          dsimp only
          rw [if_pos (decide_eq_true i1)]
          refine Ret.idx i0 i1 (Ret.idx (by omega) (by omega) (Ret.chk ?_ (hn _ ?_)))
          · unfold lim; simp only [List.length_map, List.length_take, List.length_cons, List.length_nil]; omega
          · rw [take_succ_el i0 i1, List.map_append]; rfl
        · rintro s next rfl
          dsimp only
          rw [if_neg (by simp), show (((obE F).length : Int)).toNat = (obE F).length by omega, List.take_length]
          refine Ret.acc ((arE F).length : Int) (fun i s => s = ((arE F).take i.toNat).map fun x => el x 2) (by omega) (by omega) (by simp) ?_ ?_
          · rintro i s next i0 i1 rfl hn
            have lo := R.len _ (el_mem i0 i1)
            dsimp only
            rw [if_pos (decide_eq_true i1)]
            refine Ret.idx i0 i1 (Ret.idx (by omega) (by omega) (Ret.chk ?_ (hn _ ?_)))
            · unfold lim; simp only [List.length_map, List.length_take, List.length_cons, List.length_nil]; omega
            · rw [take_succ_el i0 i1, List.map_append]; rfl
          · rintro s next rfl
            dsimp only
            rw [if_neg (by simp), show (((arE F).length : Int)).toNat = (arE F).length by omega, List.take_length]
            exact Ret.call (l06Make_eq (elC_small hf) s.s1 s1 s2) (Ret.some rfl)
      · apply Ret.eq
        unfold M.impl_ElementsProjection
        rw [isSetFunctor_eq s, decide_eq_true h, Option.bind_some, if_pos rfl]
        refine Ret.call ei ?_
        dsimp only
        rw [if_pos rfl, k1, k2, k3]
        refine Ret.call (column_e sO lO (by decide) (by decide)) (Ret.call (column_e R.sm R.len (by decide) (by decide)) ?_)
        exact Ret.call (functor_eq (elC_small hf) s.s1 s1 s2) (Ret.some rfl)
    · rw [if_neg hf] at hk
      dsimp only at hk
      subst hk
      refine ⟨zeroF, 3, zeroF_small, ?_, ?_⟩
      · unfold M.spec_ElementsProjection
        rw [l19Is_eq s, decide_eq_true h, Option.bind_some, if_pos rfl, l20Elements_r h, if_neg hf]
        rfl
      · unfold M.impl_ElementsProjection
        rw [isSetFunctor_eq s, decide_eq_true h, Option.bind_some, if_pos rfl, ei]
        rfl
  · refine ⟨zeroF, 1, zeroF_small, ?_, ?_⟩
    · unfold M.spec_ElementsProjection
      rw [l19Is_eq s, decide_eq_false h]
      rfl
    · unfold M.impl_ElementsProjection
      rw [isSetFunctor_eq s, decide_eq_false h]
      rfl
theorem law_ElementsProjection {a0 : XSetFunctor} (h0 : R.XSetFunctor a0) : M.laws_FnExactElementsProjection a0 = some true := by
  unfold M.laws_FnExactElementsProjection
  obtain ⟨v0, e0, hv0⟩ := szSetFunctor_r (n := 1048576) (by decide) (by decide) (fitsG h0)
  rw [e0, Option.bind_some]
  rcases hv0 with ⟨z0, _⟩ | ⟨l0, u0, s0⟩
  · rw [if_pos (decide_eq_true z0)]
  · rw [if_neg (fun h => absurd (of_decide_eq_true h) (by omega))]
    rw [toSetFunctor_eq s0, Option.bind_some]
    obtain ⟨g0, w, hg0, es, ei⟩ := ElementsProjection_both s0
    rw [es, ei]
    simp only [Option.bind_some]
    rw [eqFunctor_refl hg0, eqSetFunctor_refl s0]
    obtain ⟨n0, x0, p0, q0, c0, d0, _⟩ := mh_G s0 1 (by omega) (by omega)
    obtain ⟨n1, x1, p1, q1, c1, d1, _⟩ := mh_F hg0 1 (by omega) (by omega)
    simp only [Option.bind_some, bne_self_eq_false, Bool.false_eq_true, if_false, if_true, decide_eq_true_eq, c0, c1, d1]
    rw [if_neg (by omega), if_neg (by omega)]

end Go.Gx
