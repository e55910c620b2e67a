/- Plain laws: how a model is run on paper: 'Ret x Q' = x answers, and the answer is in Q. -/
import Derived.Test.YtggojehmbpbefaaGxZ
namespace Go.Gx

/-- The entry at i. -/
def el {α : Type} [Inhabited α] (l : List α) (i : Int) : α := l.getD i.toNat default

theorem idx_el {α : Type} [Inhabited α] {l : List α} {i : Int} (h0 : 0 ≤ i) (h1 : i < (l.length : Int)) : idx l i = some (el l i) := by
  unfold idx el
  rw [if_pos h0, List.getD_eq_getElem?_getD]
  have h : i.toNat < l.length := by omega
  rw [List.getElem?_eq_getElem h]
  rfl

def Ret {ρ : Type} (x : Option ρ) (Q : ρ → Prop) : Prop := ∃ r, x = some r ∧ Q r

section
variable {ρ σ τ α β : Type} {Q : ρ → Prop}

theorem Ret.eq {x : Option ρ} {v : ρ} (h : Ret x fun r => r = v) : x = some v := by
  obtain ⟨r, e, rfl⟩ := h; exact e
theorem Ret.of {x : Option ρ} {v : ρ} (h : x = some v) (hq : Q v) : Ret x Q := ⟨v, h, hq⟩
theorem Ret.some {r : ρ} (h : Q r) : Ret (some r) Q := ⟨r, rfl, h⟩
theorem Ret.mono {x : Option ρ} {P : ρ → Prop} (h : Ret x P) (hq : ∀ r, P r → Q r) : Ret x Q := by
  obtain ⟨r, e, hr⟩ := h; exact ⟨r, e, hq r hr⟩
theorem Ret.idx [Inhabited α] {l : List α} {i : Int} {f : α → Option ρ} (h0 : 0 ≤ i) (h1 : i < (l.length : Int)) (h : Ret (f (el l i)) Q) : Ret ((idx l i).bind f) Q := by
  rw [idx_el h0 h1]; exact h
theorem Ret.ite {c : Prop} [Decidable c] {x y : Option ρ} (ht : c → Ret x Q) (he : ¬ c → Ret y Q) : Ret (if c then x else y) Q := by
  split
  · exact ht ‹_›
  · exact he ‹_›
theorem Ret.pos {c : Prop} [Decidable c] {x y : Option ρ} (h : c) (ht : Ret x Q) : Ret (if c then x else y) Q := by rw [if_pos h]; exact ht
theorem Ret.neg {c : Prop} [Decidable c] {x y : Option ρ} (h : ¬ c) (ht : Ret y Q) : Ret (if c then x else y) Q := by rw [if_neg h]; exact ht
theorem Ret.chk {p : Prop} [Decidable p] {x : Option ρ} (hp : p) (h : Ret x Q) : Ret (chk p x) Q := by
  unfold Go.Gx.chk; rw [if_pos hp]; exact h
theorem Ret.bind {x : Option α} {f : α → Option ρ} {P : α → Prop} (h : Ret x P) (hf : ∀ r, P r → Ret (f r) Q) : Ret (x.bind f) Q := by
  obtain ⟨r, rfl, hr⟩ := h; exact hf r hr
theorem Ret.call {x : Option α} {f : α → Option ρ} {v : α} (h : x = Option.some v) (hf : Ret (f v) Q) : Ret (x.bind f) Q := by
  subst h; exact hf
theorem Ret.probe {step : τ → (τ → Option ρ) → Option ρ} {n : Nat} {s : τ} (h : Ret (iter step n s) Q) : Ret (iter step n s) Q := h

/-- A question answered. -/
theorem Ret.ask {x : Option Bool} {p : Prop} [Decidable p] (h : Ret x fun b => b = true ↔ p) : x = Option.some (decide p) := by
  obtain ⟨r, e, hr⟩ := h
  rw [e]; congr 1
  cases r with
  | true => exact (decide_eq_true (hr.1 rfl)).symm
  | false => exact (decide_eq_false fun hp => Bool.noConfusion (hr.2 hp)).symm

theorem Ret.loopN {step : τ → (τ → Option ρ) → Option ρ} (inv : Nat → τ → Prop) {n : Nat}
    (hgo : ∀ i s next, i < n → inv i s → (∀ s', inv (i + 1) s' → Ret (next s') Q) → Ret (step s next) Q) (hend : ∀ s next, inv n s → Ret (step s next) Q) :
    ∀ (m i : Nat) (s : τ) (fu : Nat), i + m = n → m < fu → inv i s → Ret (iter step fu s) Q
  | _, i, s, 0, _, h, _ => by omega
  | 0, i, s, fu + 1, hn, _, hi => by
    obtain rfl : i = n := by omega
    exact hend s _ hi
  | m + 1, i, s, fu + 1, hn, h, hi => hgo i s _ (by omega) hi fun s' hs' => Ret.loopN inv hgo hend m (i + 1) s' fu (by omega) (by omega) hs'

/-- A loop with an invariant over whole numbers. -/
theorem Ret.loop {step : τ → (τ → Option ρ) → Option ρ} {s0 : τ} (n : Int) (inv : Int → τ → Prop) (hn : 0 ≤ n) (hf : n < 4294967296) (h0 : inv 0 s0)
    (hgo : ∀ i s next, 0 ≤ i → i < n → inv i s → (∀ s', inv (i + 1) s' → Ret (next s') Q) → Ret (step s next) Q) (hend : ∀ s next, inv n s → Ret (step s next) Q) :
    Ret (iter step fuel s0) Q := by
  refine Ret.loopN (n := n.toNat) (fun i s => inv (i : Int) s) ?_ ?_ n.toNat 0 s0 fuel (by omega) (by unfold fuel; omega) h0
  · intro i s next hi hs hnext
    exact hgo i s next (by omega) (by omega) hs fun s' hs' => hnext s' (by push_cast; exact hs')
  · intro s next hs
    rw [Int.toNat_of_nonneg hn] at hs
    exact hend s next hs

/-- A loop that checks: each round asks P, and goes on if P holds. -/
theorem Ret.all {step : Int → (Int → Option ρ) → Option ρ} (n : Int) (P : Int → Prop) (hn : 0 ≤ n) (hf : n < 4294967296)
    (hgo : ∀ i next, 0 ≤ i → i < n → (∀ j, 0 ≤ j → j < i → P j) → (P i → Ret (next (IntKind.i64.wrap (i + 1))) Q) → Ret (step i next) Q)
    (hend : ∀ next, (∀ j, 0 ≤ j → j < n → P j) → Ret (step n next) Q) : Ret (iter step fuel 0) Q := by
  refine Ret.loop n (fun i s => s = i ∧ ∀ j, 0 ≤ j → j < i → P j) hn hf ⟨rfl, fun j h0 h1 => by omega⟩ ?_ ?_
  · rintro i s next h0 h1 ⟨rfl, hp⟩ hnext
    refine hgo _ next h0 h1 hp fun hP => hnext _ ⟨wrap_in (by omega) (by omega), fun j hj0 hj1 => ?_⟩
    by_cases hj : j = s
    · subst hj; exact hP
    · exact hp j hj0 (by omega)
  · rintro s next ⟨rfl, hp⟩
    exact hend next hp

/-- A loop with a state beside the counter. -/
theorem Ret.acc {step : α × Int → (α × Int → Option ρ) → Option ρ} {a0 : α} (n : Int) (inv : Int → α → Prop) (hn : 0 ≤ n) (hf : n < 4294967296) (h0 : inv 0 a0)
    (hgo : ∀ i a next, 0 ≤ i → i < n → inv i a → (∀ a', inv (i + 1) a' → Ret (next (a', IntKind.i64.wrap (i + 1))) Q) → Ret (step (a, i) next) Q)
    (hend : ∀ a next, inv n a → Ret (step (a, n) next) Q) : Ret (iter step fuel (a0, 0)) Q := by
  refine Ret.loop n (fun i s => s.2 = i ∧ inv i s.1) hn hf ⟨rfl, h0⟩ ?_ ?_
  · rintro i ⟨a, s⟩ next h0 h1 ⟨rfl, hp⟩ hnext
    exact hgo s a next h0 h1 hp fun a' ha => hnext _ ⟨wrap_in (by dsimp only at *; omega) (by dsimp only at *; omega), ha⟩
  · rintro ⟨a, s⟩ next ⟨rfl, hp⟩
    exact hend a next hp
end

/-! ### tables -/
section
variable {α β : Type}

/-- The list of f 0, .. f (n - 1). -/
def tab (n : Int) (f : Int → α) : List α := (List.range n.toNat).map fun (k : Nat) => f (k : Int)

@[simp] theorem tab_length (n : Int) (f : Int → α) : (tab n f).length = n.toNat := by simp [tab]
@[simp] theorem tab_zero (f : Int → α) : tab 0 f = [] := rfl
theorem tab_succ {i : Int} (f : Int → α) (h : 0 ≤ i) : tab (i + 1) f = tab i f ++ [f i] := by
  unfold tab
  rw [show (i + 1).toNat = i.toNat + 1 by omega, List.range_succ, List.map_append]
  simp [Int.toNat_of_nonneg h]
theorem tab_get? (n : Int) (f : Int → α) (k : Nat) : (tab n f)[k]? = if (k : Int) < n then some (f k) else none := by
  unfold tab
  rw [List.getElem?_map]
  by_cases h : (k : Int) < n
  · rw [List.getElem?_range (by omega), if_pos h]; rfl
  · rw [List.getElem?_eq_none (by simp; omega), if_neg h]; rfl
theorem el_tab [Inhabited α] {n : Int} {f : Int → α} {i : Int} (h0 : 0 ≤ i) (h1 : i < n) : el (tab n f) i = f i := by
  unfold el
  rw [List.getD_eq_getElem?_getD, tab_get?]
  simp [Int.toNat_of_nonneg h0, h1]
theorem tab_congr {n : Int} {f g : Int → α} (h : ∀ i, 0 ≤ i → i < n → f i = g i) : tab n f = tab n g := by
  unfold tab
  apply List.map_congr_left
  intro k hk
  have := List.mem_range.1 hk
  exact h k (by omega) (by omega)
/-- A list is the table of its entries. -/
theorem tab_el [Inhabited α] (l : List α) : tab (l.length : Int) (el l) = l := by
  apply List.ext_getElem?
  intro k
  rw [tab_get?]
  split
  · rename_i h
    have : k < l.length := by omega
    simp [el, this]
  · rename_i h
    rw [List.getElem?_eq_none (by omega)]
theorem list_ext [Inhabited α] {l m : List α} (hl : l.length = m.length) (h : ∀ i, 0 ≤ i → i < (l.length : Int) → el l i = el m i) : l = m := by
  rw [← tab_el l, ← tab_el m, ← hl]
  exact tab_congr h
theorem set_tab {n : Int} {f : Int → α} {i : Int} {v : α} (h0 : 0 ≤ i) : (tab n f).set i.toNat v = tab n fun j => if j = i then v else f j := by
  apply List.ext_getElem?
  intro k
  rw [List.getElem?_set, tab_get?, tab_get?, tab_length]
  by_cases hk : (k : Int) = i
  · have e : i.toNat = k := by omega
    rw [if_pos e]
    by_cases hn : (k : Int) < n
    · rw [if_pos (by omega), if_pos hn, if_pos hk]
    · rw [if_neg (by omega), if_neg hn]
  · rw [if_neg (by omega), if_neg hk]
theorem rep_tab (n : Int) (z : α) : List.replicate n.toNat z = tab n fun _ => z := by
  unfold tab
  rw [List.map_const']; simp

/-- The whole numbers below n with p. -/
def fil (n : Int) (p : Int → Bool) : List Int := ((List.range n.toNat).map fun (k : Nat) => (k : Int)).filter p
@[simp] theorem fil_zero (p : Int → Bool) : fil 0 p = [] := rfl
theorem fil_succ {i : Int} (p : Int → Bool) (h : 0 ≤ i) : fil (i + 1) p = fil i p ++ (if p i then [i] else []) := by
  unfold fil
  rw [show (i + 1).toNat = i.toNat + 1 by omega, List.range_succ, List.map_append, List.filter_append]
  simp [Int.toNat_of_nonneg h, List.filter_cons]
theorem fil_congr {n : Int} {p q : Int → Bool} (h : ∀ i, 0 ≤ i → i < n → p i = q i) : fil n p = fil n q := by
  unfold fil
  apply List.filter_congr
  intro x hx
  obtain ⟨k, hk, rfl⟩ := List.mem_map.1 hx
  have := List.mem_range.1 hk
  exact h k (by omega) (by omega)
theorem fil_length_le (n : Int) (p : Int → Bool) : (fil n p).length ≤ n.toNat := by
  unfold fil
  refine Nat.le_trans (List.length_filter_le _ _) ?_
  simp
theorem fil_mem {n : Int} {p : Int → Bool} {x : Int} : x ∈ fil n p ↔ 0 ≤ x ∧ x < n ∧ p x = true := by
  unfold fil
  rw [List.mem_filter, List.mem_map]
  constructor
  · rintro ⟨⟨k, hk, rfl⟩, hp⟩
    have := List.mem_range.1 hk
    exact ⟨by omega, by omega, hp⟩
  · rintro ⟨h0, h1, hp⟩
    exact ⟨⟨x.toNat, List.mem_range.2 (by omega), by omega⟩, hp⟩
theorem fil_filter (n : Int) (p q : Int → Bool) : (fil n p).filter q = fil n fun i => p i && q i := by
  unfold fil
  rw [List.filter_filter]
  congr 1
  funext x
  exact Bool.and_comm _ _

theorem el_mem [Inhabited α] {l : List α} {i : Int} (h0 : 0 ≤ i) (h1 : i < (l.length : Int)) : el l i ∈ l := by
  have h : i.toNat < l.length := by omega
  unfold el
  rw [List.getD_eq_getElem?_getD, List.getElem?_eq_getElem h]
  exact List.getElem_mem h
theorem mem_el [Inhabited α] {l : List α} {x : α} (h : x ∈ l) : ∃ i, 0 ≤ i ∧ i < (l.length : Int) ∧ el l i = x := by
  obtain ⟨k, hk, rfl⟩ := List.mem_iff_getElem.1 h
  exact ⟨k, by omega, by omega, by simp [el, hk]⟩
theorem take_succ_el [Inhabited α] {l : List α} {i : Int} (h0 : 0 ≤ i) (h1 : i < (l.length : Int)) : l.take (i + 1).toNat = l.take i.toNat ++ [el l i] := by
  have h : i.toNat < l.length := by omega
  rw [show (i + 1).toNat = i.toNat + 1 by omega, List.take_add_one, List.getElem?_eq_getElem h]
  simp [el, h]
end
end Go.Gx
