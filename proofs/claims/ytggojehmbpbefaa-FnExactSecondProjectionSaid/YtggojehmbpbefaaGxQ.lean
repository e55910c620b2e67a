/- The result of a call: owned parts become roots; the rule for calls. -/
import Derived.Test.YtggojehmbpbefaaGxO
namespace Go.Gx

def plc1 (n : Nat) : D → D × List (Nat × Root)
  | .fr sz k ds => (.rs n 0 k, [(n, .arr sz ds [])])
  | d => (d, [])

def plcL (n : Nat) : List D → List D × List (Nat × Root)
  | [] => ([], [])
  | d :: ds => ((plc1 n d).1 :: (plcL (n + 1) ds).1, (plc1 n d).2 ++ (plcL (n + 1) ds).2)

def plcA (n : Nat) : D → D × List (Nat × Root)
  | .agg ds => (.agg (plcL n ds).1, (plcL n ds).2)
  | d => plc1 n d

def plcT (n : Nat) : List D → List D × List (Nat × Root)
  | [] => ([], [])
  | d :: ds => ((plcA n d).1 :: (plcT (n + 100) ds).1, (plcA n d).2 ++ (plcT (n + 100) ds).2)

def plc (n : Nat) : D → D × List (Nat × Root)
  | .tup ds => (.tup (plcT n ds).1, (plcT n ds).2)
  | d => plcA n d

def wrNew (l : List (Nat × Root)) : Wr := (l.map fun p => (2 * p.1 + 1, some (Ent.r p.2))).reverse

theorem FreshName.updAll {g : X} {wr : Wr} {r : Nat} (h : FreshName g r) (hw : ∀ p ∈ wr, p.1 ≠ 2 * r + 1 ∧ ∀ e, p.2 = some e → e.names r = false) : FreshName (Gx.upd g wr) r := by
  induction wr with
  | nil => exact h
  | cons p wr ih =>
    intro k e he
    have he' : (if k = p.1 then p.2 else Gx.upd g wr k) = some e := he
    by_cases hk : k = p.1
    · rw [if_pos hk] at he'
      have := hw p (by simp)
      exact ⟨by rw [hk]; exact this.1, this.2 e he'⟩
    · rw [if_neg hk] at he'
      exact ih (fun q hq => hw q (by simp [hq])) k e he'

theorem names_noRefs {x : Root} {r : Nat} (hx : rootRefs x = []) : (Ent.r x).names r = false := by
  cases x with
  | arr sz cells refs => have : refs = [] := hx; subst this; rfl
  | mp es => rfl

section
variable {Γ : Ctx} {a : Act} {w : World} {S : Nat → Prop}

/-- What the placing of a value gives: a state with the new roots, the value's name for it. -/
structure Placed (Γ : Ctx) (g : X) (a : Act) (w : World) (S : Nat → Prop) (β : Beta) (Fs : Nat → List Nat) (F G : List Nat) (l : List (Nat × Root)) (β' : Beta) (Fs' : Nat → List Nat) : Prop where
  inv : Inv Γ (upd g (wrNew l)) a w S β' Fs'
  same : ∀ r, (∀ p ∈ l, p.1 ≠ r) → β' r = β r
  foot : ∀ r b, b ∈ Fs' r → b ∈ Fs r ∨ b ∈ F

def FOk (Γ : Ctx) (w : World) (S : Nat → Prop) (Fs : Nat → List Nat) (F : List Nat) : Prop := ∀ b ∈ F, ¬ S b ∧ b < w.heap.size ∧ (Γ.F0 b ∨ Γ.w0.heap.size ≤ b) ∧ ∀ r, b ∉ Fs r

theorem wrNew_append (l l' : List (Nat × Root)) : wrNew (l ++ l') = wrNew l' ++ wrNew l := by simp [wrNew]

theorem FreshName.wrNew {g : X} {r : Nat} (h : FreshName g r) {l : List (Nat × Root)} (hl : ∀ p ∈ l, rootRefs p.2 = [] ∧ p.1 ≠ r) : FreshName (Gx.upd g (Gx.wrNew l)) r :=
  h.updAll fun p hp => by
    simp only [Gx.wrNew, List.mem_reverse, List.mem_map] at hp
    obtain ⟨q, hq, rfl⟩ := hp
    exact ⟨by have := (hl q hq).2; omega, fun e he => by cases he; exact names_noRefs (hl q hq).1⟩

theorem place1 {g : X} {β : Beta} {Fs : Nat → List Nat} {d : D} {y : Value} {F : List Nat} {n : Nat} (hi : Inv Γ g a w S β Fs) (h : Rep w S d β y F) (hF : F.Nodup) (hok : FOk Γ w S Fs F) (hm : d.men = [])
    (hn : Γ.np ≤ n) (hf : FreshName g n) :
    ∃ β' Fs', Placed Γ g a w S β Fs F [] (plc1 n d).2 β' Fs' ∧ ∃ F', Rep w S (plc1 n d).1 β' y F' ∧ (d.noFr = true ∨ (∃ sz k ds, d = .fr sz k ds) → F' = []) ∧ (∀ b ∈ F', b ∈ F) := by
  by_cases hfr : ∃ sz k ds, d = .fr sz k ds
  · obtain ⟨sz, k, ds, rfl⟩ := hfr
    unfold Rep at h
    obtain ⟨aa, cap, rfl, hl, hmn, h⟩ := h
    rcases h with ⟨rfl, rfl, rfl, rfl⟩ | ⟨b, o, pre, ys, rest, E, F', rfl, k1, k2, k3, k4, rfl, k5⟩
    · have hds : ds = [] := List.eq_nil_of_length_eq_zero (by simpa using hl)
      subst hds
      refine ⟨_, _, ⟨hi.newRoot (x := .arr sz [] []) (rb := .nil) (F := []) hn hf ⟨rfl, rfl⟩ List.nodup_nil (by simp), fun r hr => ?_, fun r b hb => ?_⟩, [], ?_, fun _ => rfl, by simp⟩
      · have := hr (n, .arr sz [] []) (by simp [plc1])
        unfold setB; rw [if_neg (Ne.symm this)]
      · unfold setF at hb; split at hb
        · simp at hb
        · exact .inl hb
      · unfold plc1 Rep; simp [setB]
    · refine ⟨_, _, ⟨hi.newRoot (x := .arr sz ds []) (rb := .blk b o sz (pre ++ ys ++ rest).length) (F := b :: F') hn hf ⟨rfl, pre, ys, rest, E, F', k3, rfl, k4, rfl, by rw [← noB_res]; exact k5, by rw [hmn]; simp⟩ hF hok, fun r hr => ?_, fun r c hc => ?_⟩, [], ?_, fun _ => rfl, by simp⟩
      · have := hr (n, .arr sz ds []) (by simp [plc1])
        unfold setB; rw [if_neg (Ne.symm this)]
      · unfold setF at hc; split at hc
        · exact .inr hc
        · exact .inl hc
      · unfold plc1 Rep
        refine ⟨rfl, ?_⟩
        simp only [setB, if_true]
        exact ⟨cap, by simp, k1, by simpa using k2⟩
  · have e : plc1 n d = (d, []) := by cases d <;> first | rfl | exact absurd ⟨_, _, _, rfl⟩ hfr
    rw [e]
    exact ⟨β, Fs, ⟨hi, fun _ _ => rfl, fun r b hb => .inl hb⟩, F, h, fun hc => by
      rcases hc with hc | hc
      · exact Rep.noF hc h
      · exact absurd hc hfr, fun b hb => hb⟩

/-- Each part is without owned parts or is one. -/
def flat1 : D → Bool
  | .fr _ _ _ => true
  | d => d.noFr
def flatD : D → Bool
  | .agg ds => ds.all flat1
  | d => flat1 d
def flatT : D → Bool
  | .tup ds => ds.all flatD
  | d => flatD d

theorem flat1_spec {d : D} (h : flat1 d = true) : d.noFr = true ∨ ∃ sz k ds, d = .fr sz k ds := by
  cases d <;> first | exact .inr ⟨_, _, _, rfl⟩ | exact .inl h

theorem plcL_names : ∀ (ds : List D) (n : Nat), ∀ p ∈ (plcL n ds).2, n ≤ p.1 ∧ p.1 < n + ds.length ∧ rootRefs p.2 = []
  | [], _, p, hp => by simp [plcL] at hp
  | d :: ds, n, p, hp => by
    simp only [plcL, List.mem_append] at hp
    rcases hp with hp | hp
    · cases d <;> simp [plc1] at hp
      subst hp; exact ⟨Nat.le_refl _, by simp, rfl⟩
    · have := plcL_names ds (n + 1) p hp
      exact ⟨by omega, by simp; omega, this.2.2⟩

theorem men_nil {d : D} {ds : List D} (h : menL (d :: ds) = []) : d.men = [] ∧ menL ds = [] := by
  simpa [menL] using h

theorem placeL : ∀ {ds : List D} {g : X} {β : Beta} {Fs : Nat → List Nat} {ys : List Value} {F : List Nat} {n : Nat}, Inv Γ g a w S β Fs → RepL w S ds β ys F → F.Nodup → FOk Γ w S Fs F → menL ds = [] → ds.all flat1 = true →
    Γ.np ≤ n → (∀ i, i < ds.length → FreshName g (n + i)) → ∃ β' Fs', Placed Γ g a w S β Fs F [] (plcL n ds).2 β' Fs' ∧ RepL w S (plcL n ds).1 β' ys [] ∧ (∀ m ∈ menL (plcL n ds).1, n ≤ m ∧ m < n + ds.length)
  | [], g, β, Fs, ys, F, n, hi, h, _, _, _, _, _, _ => by
    unfold RepL at h
    obtain ⟨rfl, rfl⟩ := h
    exact ⟨β, Fs, ⟨hi, fun _ _ => rfl, fun r b hb => .inl hb⟩, RepL_nil, by simp [plcL, menL]⟩
  | d :: ds, g, β, Fs, ys, F, n, hi, h, hF, hok, hm, hfl, hn, hf => by
    unfold RepL at h
    obtain ⟨y, ys', F1, F2, rfl, rfl, h0, h1, h2⟩ := h
    obtain ⟨hm1, hm2⟩ := men_nil hm
    simp only [List.all_cons, Bool.and_eq_true] at hfl
    obtain ⟨hF1, hF2, hF3⟩ := List.nodup_append.1 hF
    obtain ⟨β1, Fs1, p1, F', r1, z1, _⟩ := place1 hi h1 hF1 (fun b hb => hok b (by simp [hb])) hm1 hn (by simpa using hf 0 (by simp))
    obtain rfl := z1 (flat1_spec hfl.1)
    have r2 : RepL w S ds β1 ys' F2 := RepL.beta ds ys' F2 (by rw [hm2]; simp) h2
    have hnm : ∀ p ∈ (plc1 n d).2, p.1 = n ∧ rootRefs p.2 = [] := by
      intro p hp
      cases d <;> simp [plc1] at hp
      subst hp; exact ⟨rfl, rfl⟩
    obtain ⟨β2, Fs2, p2, r3, r4⟩ := placeL (n := n + 1) p1.inv r2 hF2 (fun b hb => by
      have h5 := hok b (by simp [hb])
      refine ⟨h5.1, h5.2.1, h5.2.2.1, fun r hr => ?_⟩
      rcases p1.foot r b hr with h6 | h6
      · exact h5.2.2.2 r h6
      · exact hF3 b h6 b hb rfl) hm2 hfl.2 (by omega) (fun i hi => by
        rw [show n + 1 + i = n + (i + 1) by omega]
        exact (hf (i + 1) (by simpa using hi)).wrNew fun p hp => ⟨(hnm p hp).2, by rw [(hnm p hp).1]; omega⟩)
    refine ⟨β2, Fs2, ⟨?_, fun r hr => ?_, fun r b hb => ?_⟩, ?_, ?_⟩
    · have := p2.inv
      rw [← upd_append, ← wrNew_append] at this
      exact this
    · have h7 := p2.same r (fun p hp => hr p (by simp [plcL, hp]))
      rw [h7]
      exact p1.same r (fun p hp => hr p (by simp [plcL, hp]))
    · rcases p2.foot r b hb with h8 | h8
      · rcases p1.foot r b h8 with h9 | h9
        · exact .inl h9
        · exact .inr (by simp [h9])
      · exact .inr (by simp [h8])
    · simp only [plcL]
      refine RepL_cons (F1 := []) (F2 := []) h0 (Rep.beta _ _ _ (fun m hmm => ?_) r1) r3
      have : m = n ∨ (plc1 n d).1 = d := by
        cases d <;> first | exact .inr rfl | (simp [plc1, D.men] at hmm; exact .inl hmm)
      refine p2.same m fun p hp => ?_
      have hpn := plcL_names ds (n + 1) p hp
      rcases this with rfl | e
      · omega
      · rw [e, hm1] at hmm; cases hmm
    · intro m hmm
      simp only [plcL, menL, List.mem_append] at hmm
      rcases hmm with hmm | hmm
      · have : m = n ∨ (plc1 n d).1 = d := by
          cases d <;> first | exact .inr rfl | (simp [plc1, D.men] at hmm; exact .inl hmm)
        rcases this with rfl | e
        · simp
        · rw [e, hm1] at hmm; cases hmm
      · have := r4 m hmm
        simp; omega

def width : D → Nat
  | .agg ds => ds.length
  | _ => 1

theorem plcA_names (d : D) (n : Nat) : ∀ p ∈ (plcA n d).2, n ≤ p.1 ∧ p.1 < n + width d ∧ rootRefs p.2 = [] := by
  intro p hp
  cases d <;> simp [plcA, plc1] at hp
  case agg ds => exact plcL_names ds n p hp
  case fr sz k ds => subst hp; exact ⟨Nat.le_refl _, by simp [width], rfl⟩

theorem placeA {g : X} {β : Beta} {Fs : Nat → List Nat} {d : D} {y : Value} {F : List Nat} {n : Nat} (hi : Inv Γ g a w S β Fs) (h : Rep w S d β y F) (hF : F.Nodup) (hok : FOk Γ w S Fs F) (hm : d.men = [])
    (hfl : flatD d = true) (hn : Γ.np ≤ n) (hf : ∀ i, i < width d → FreshName g (n + i)) :
    ∃ β' Fs', Placed Γ g a w S β Fs F [] (plcA n d).2 β' Fs' ∧ Rep w S (plcA n d).1 β' y [] ∧ (∀ m ∈ (plcA n d).1.men, n ≤ m ∧ m < n + width d) := by
  by_cases hag : ∃ ds, d = .agg ds
  · obtain ⟨ds, rfl⟩ := hag
    unfold Rep at h
    obtain ⟨ys, e, h⟩ := h
    obtain ⟨β', Fs', p, r, m⟩ := placeL hi h hF hok (by simpa [D.men] using hm) hfl hn hf
    refine ⟨β', Fs', p, ?_, ?_⟩
    · show Rep w S (.agg (plcL n ds).1) β' y []
      unfold Rep; exact ⟨ys, e, r⟩
    · intro q hq; exact m q (by simpa [plcA, D.men] using hq)
  · have e : plcA n d = plc1 n d := by cases d <;> first | rfl | exact absurd ⟨_, rfl⟩ hag
    have ew : width d = 1 := by cases d <;> first | rfl | exact absurd ⟨_, rfl⟩ hag
    have ef : flatD d = flat1 d := by cases d <;> first | rfl | exact absurd ⟨_, rfl⟩ hag
    rw [ef] at hfl
    rw [ew] at hf
    obtain ⟨β', Fs', p, F', r, z, _⟩ := place1 hi h hF hok hm hn (by simpa using hf 0 (by simp))
    obtain rfl := z (flat1_spec hfl)
    rw [e, ew]
    refine ⟨β', Fs', p, r, fun m hmm => ?_⟩
    have : m = n ∨ (plc1 n d).1 = d := by
      cases d <;> first | exact .inr rfl | (simp [plc1, D.men] at hmm; exact .inl hmm)
    rcases this with rfl | e'
    · omega
    · rw [e', hm] at hmm; cases hmm

theorem plcT_names : ∀ (ds : List D) (n : Nat), (∀ d ∈ ds, width d ≤ 100) → ∀ p ∈ (plcT n ds).2, n ≤ p.1 ∧ p.1 < n + 100 * ds.length ∧ rootRefs p.2 = []
  | [], _, _, p, hp => by simp [plcT] at hp
  | d :: ds, n, hw, p, hp => by
    simp only [plcT, List.mem_append] at hp
    have h1 := hw d (by simp)
    rcases hp with hp | hp
    · have := plcA_names d n p hp
      exact ⟨this.1, by simp; omega, this.2.2⟩
    · have := plcT_names ds (n + 100) (fun d hd => hw d (by simp [hd])) p hp
      exact ⟨by omega, by simp; omega, this.2.2⟩

theorem placeT : ∀ {ds : List D} {g : X} {β : Beta} {Fs : Nat → List Nat} {ys : List Value} {F : List Nat} {n : Nat}, Inv Γ g a w S β Fs → RepT w S ds β ys F → F.Nodup → FOk Γ w S Fs F → menL ds = [] → ds.all flatD = true →
    (∀ d ∈ ds, width d ≤ 100) → Γ.np ≤ n → (∀ i, i < 100 * ds.length → FreshName g (n + i)) →
    ∃ β' Fs', Placed Γ g a w S β Fs F [] (plcT n ds).2 β' Fs' ∧ RepT w S (plcT n ds).1 β' ys [] ∧ (∀ m ∈ menL (plcT n ds).1, n ≤ m ∧ m < n + 100 * ds.length)
  | [], g, β, Fs, ys, F, n, hi, h, _, _, _, _, _, _, _ => by
    unfold RepT at h
    obtain ⟨rfl, rfl⟩ := h
    exact ⟨β, Fs, ⟨hi, fun _ _ => rfl, fun r b hb => .inl hb⟩, by simp [plcT, RepT], by simp [plcT, menL]⟩
  | d :: ds, g, β, Fs, ys, F, n, hi, h, hF, hok, hm, hfl, hw, hn, hf => by
    unfold RepT at h
    obtain ⟨y, ys', F1, F2, rfl, rfl, h1, h2⟩ := h
    obtain ⟨hm1, hm2⟩ := men_nil hm
    simp only [List.all_cons, Bool.and_eq_true] at hfl
    obtain ⟨hF1, hF2, hF3⟩ := List.nodup_append.1 hF
    have hw1 := hw d (by simp)
    obtain ⟨β1, Fs1, p1, r1, m1⟩ := placeA hi h1 hF1 (fun b hb => hok b (by simp [hb])) hm1 hfl.1 hn (fun i hi => hf i (by simp; omega))
    have r2 : RepT w S ds β1 ys' F2 := RepT.beta ds ys' F2 (by rw [hm2]; simp) h2
    obtain ⟨β2, Fs2, p2, r3, r4⟩ := placeT (n := n + 100) p1.inv r2 hF2 (fun b hb => by
      have h5 := hok b (by simp [hb])
      refine ⟨h5.1, h5.2.1, h5.2.2.1, fun r hr => ?_⟩
      rcases p1.foot r b hr with h6 | h6
      · exact h5.2.2.2 r h6
      · exact hF3 b h6 b hb rfl) hm2 hfl.2 (fun d hd => hw d (by simp [hd])) (by omega) (fun i hi => by
        rw [show n + 100 + i = n + (i + 100) by omega]
        exact (hf (i + 100) (by simp; omega)).wrNew fun p hp => ⟨(plcA_names d n p hp).2.2, by have := (plcA_names d n p hp).2.1; omega⟩)
    refine ⟨β2, Fs2, ⟨?_, fun r hr => ?_, fun r b hb => ?_⟩, ?_, ?_⟩
    · have := p2.inv
      rw [← upd_append, ← wrNew_append] at this
      exact this
    · have h7 := p2.same r (fun p hp => hr p (by simp [plcT, hp]))
      rw [h7]
      exact p1.same r (fun p hp => hr p (by simp [plcT, hp]))
    · rcases p2.foot r b hb with h8 | h8
      · rcases p1.foot r b h8 with h9 | h9
        · exact .inl h9
        · exact .inr (by simp [h9])
      · exact .inr (by simp [h8])
    · simp only [plcT]
      unfold RepT
      refine ⟨y, ys', [], [], rfl, rfl, Rep.beta _ _ _ (fun m hmm => ?_) r1, r3⟩
      refine p2.same m fun p hp => ?_
      have hpn := plcT_names ds (n + 100) (fun d hd => hw d (by simp [hd])) p hp
      have := m1 m hmm
      omega
    · intro m hmm
      simp only [plcT, menL, List.mem_append] at hmm
      rcases hmm with hmm | hmm
      · have := m1 m hmm; simp; omega
      · have := r4 m hmm; simp; omega

def widthT : D → Nat
  | .tup ds => 100 * ds.length
  | d => width d
def narrow : D → Bool
  | .tup ds => ds.all fun d => decide (width d ≤ 100)
  | _ => true

theorem plc_names (d : D) (n : Nat) (hw : narrow d = true) : ∀ p ∈ (plc n d).2, n ≤ p.1 ∧ p.1 < n + widthT d ∧ rootRefs p.2 = [] := by
  intro p hp
  cases d <;> first | (exact plcA_names _ n p hp) | skip
  case tup ds => exact plcT_names ds n (fun d hd => by have := List.all_eq_true.1 hw d hd; simpa using this) p hp

theorem place {g : X} {β : Beta} {Fs : Nat → List Nat} {d : D} {y : Value} {F : List Nat} {n : Nat} (hi : Inv Γ g a w S β Fs) (h : Rep w S d β y F) (hF : F.Nodup) (hok : FOk Γ w S Fs F) (hm : d.men = [])
    (hfl : flatT d = true) (hw : narrow d = true) (hn : Γ.np ≤ n) (hf : ∀ i, i < widthT d → FreshName g (n + i)) :
    ∃ β' Fs', Inv Γ (upd g (wrNew (plc n d).2)) a w S β' Fs' ∧ Rep w S (plc n d).1 β' y [] := by
  by_cases ht : ∃ ds, d = .tup ds
  · obtain ⟨ds, rfl⟩ := ht
    unfold Rep at h
    obtain ⟨ys, e, h⟩ := h
    obtain ⟨β', Fs', p, r, m⟩ := placeT hi h hF hok (by simpa [D.men] using hm) hfl (fun d hd => by have := List.all_eq_true.1 hw d hd; simpa using this) hn hf
    refine ⟨β', Fs', p.inv, ?_⟩
    show Rep w S (.tup (plcT n ds).1) β' y []
    unfold Rep; exact ⟨ys, e, r⟩
  · have e : plc n d = plcA n d := by cases d <;> first | rfl | exact absurd ⟨_, rfl⟩ ht
    have ef : flatT d = flatD d := by cases d <;> first | rfl | exact absurd ⟨_, rfl⟩ ht
    have ew : widthT d = width d := by cases d <;> first | rfl | exact absurd ⟨_, rfl⟩ ht
    rw [ef] at hfl
    rw [ew] at hf
    obtain ⟨β', Fs', p, r, _⟩ := placeA hi h hF hok hm hfl hn hf
    rw [e]
    exact ⟨β', Fs', p.inv, r⟩
end

/-! ### the rule -/
def fnOf : D → Option (FuncId × List D)
  | .fn f caps => some (f, caps)
  | .fb f caps => some (f, caps)
  | _ => none

def freshFrom (n k : Nat) : List Nat := List.range' n k

section
variable {P : Program} {o : Oper} {N t : Nat} {st : St}

theorem evAll {Γ : Ctx} {g : X} {a : Act} {w : World} {S : Nat → Prop} {β : Beta} {Fs : Nat → List Nat} (hi : Inv Γ g a w S β Fs) {st : St} : ∀ {l : List Operand}, Needs g (needAll st l) → RepT w S (l.map (evD st)) β (l.map a.eval) []
  | [], _ => by simp [RepT]
  | x :: l, hn => by
    rw [needAll, Needs.append] at hn
    simp only [List.map_cons]
    unfold RepT
    exact ⟨_, _, [], [], rfl, rfl, hi.eval hn.1, evAll hi hn.2⟩

theorem RepT_append_mk {w : World} {S : Nat → Prop} {β : Beta} : ∀ {ds ds' : List D} {ys ys' : List Value}, RepT w S ds β ys [] → RepT w S ds' β ys' [] → RepT w S (ds ++ ds') β (ys ++ ys') []
  | [], _, ys, _, h, h' => by unfold RepT at h; obtain ⟨rfl, _⟩ := h; simpa using h'
  | d :: ds, _, ys, _, h, h' => by
    unfold RepT at h
    obtain ⟨y, ys1, F1, F2, rfl, e, h1, h2⟩ := h
    simp only [List.nil_eq, List.append_eq_nil_iff] at e
    obtain ⟨rfl, rfl⟩ := e
    simp only [List.cons_append]
    unfold RepT
    exact ⟨_, _, [], [], rfl, rfl, h1, RepT_append_mk h2 h'⟩

theorem RepL.toT {w : World} {S : Nat → Prop} {β : Beta} : ∀ {ds : List D} {ys : List Value} {F : List Nat}, RepL w S ds β ys F → RepT w S ds β ys F
  | [], _, _, h => by unfold RepL at h; unfold RepT; exact h
  | d :: ds, _, _, h => by
    unfold RepL at h
    obtain ⟨y, ys', F1, F2, rfl, rfl, _, h1, h2⟩ := h
    unfold RepT
    exact ⟨y, ys', F1, F2, rfl, rfl, h1, h2.toT⟩

def rinNeed (ρ : Nat → Nat) (rin : List (Nat × Root)) : List (Nat × Ent) := rin.map fun p => (2 * ρ p.1 + 1, .r p.2)

theorem rinNeed_spec {g : X} {ρ : Nat → Nat} : ∀ {rin : List (Nat × Root)}, Needs g (rinNeed ρ rin) → ∀ p ∈ rin, g (2 * ρ p.1 + 1) = some (.r p.2) := by
  intro rin h p hp
  exact Needs.mem h (2 * ρ p.1 + 1, .r p.2) (List.mem_map.2 ⟨p, hp, rfl⟩)

/-- What the kernel checks of the roots that are handed in and come back. -/
def rinB (ρ : Nat → Nat) (rin rout : List (Nat × Root)) : Bool :=
  rin.all (fun p => (rootRefs p.2).isEmpty) && rout.all (fun p => (rootRefs p.2).isEmpty && rin.any (·.1 == p.1)) && (rin.map (·.1)).Nodup && (rin.map (fun p => ρ p.1)).Nodup

theorem nodup_inj {α : Type} {f : α → Nat} : ∀ {l : List α}, (l.map f).Nodup → ∀ a ∈ l, ∀ b ∈ l, f a = f b → a = b
  | [], _, a, ha, _, _, _ => by cases ha
  | x :: l, h, a, ha, b, hb, e => by
    simp only [List.map_cons, List.nodup_cons] at h
    rcases List.mem_cons.1 ha with ea | ha <;> rcases List.mem_cons.1 hb with eb | hb
    · rw [ea, eb]
    · exact absurd (List.mem_map.2 ⟨b, hb, by rw [← e, ea]⟩) h.1
    · exact absurd (List.mem_map.2 ⟨a, ha, by rw [e, eb]⟩) h.1
    · exact nodup_inj h.2 a ha b hb e

theorem opx_call {f : FuncId} {fop : Operand} {xs : Array Operand} {ts : Array TypeId} {caps : List D} {ρ : Nat → Nat} {rin rout : List (Nat × Root)} {args : List D} {res : D} {n : Nat}
    (ho : o.op = .call ⟨.value fop, xs, ts⟩) (hd : o.dst = some t ∨ (o.dst = none ∧ (plc n res).2 = [])) (ht : t < N) (hf : evD st fop = .fn f caps) (hok : CallOk P f) (hp : PassL ρ (xs.toList.map (evD st) ++ caps) args)
    (hc : FnC P f rin args rout res) (hb : rinB ρ rin rout = true) (hm : res.men = []) (hfl : flatT res = true) (hw : narrow res = true) :
    OpX P o N (needOf st fop ++ (needAll st xs.toList ++ rinNeed ρ rin)) ((match o.dst with | some t => [(2 * t, some (.d (plc n res).1))] | none => []) ++ (wrNew (plc n res).2 ++ wrRoots ρ rin rout)) (freshFrom n (widthT res + 1)) := by
  intro Γ hN g a w K Q hs hneed hfr hK
  obtain ⟨S, β, Fs, hi⟩ := hs
  simp only [Needs.append] at hneed
  obtain ⟨n1, n2, n3⟩ := hneed
  have hfn := hi.eval n1
  rw [hf] at hfn
  unfold Rep at hfn
  obtain ⟨cvs, ef, hcaps⟩ := hfn
  simp only [rinB, Bool.and_eq_true, List.all_eq_true] at hb
  obtain ⟨⟨⟨b1, b2⟩, b3⟩, b4⟩ := hb
  have b3 := of_decide_eq_true b3
  have b4 := of_decide_eq_true b4
  have hin : RinOk g ρ rin := ⟨fun p hp => ⟨rinNeed_spec n3 p hp, by simpa using b1 p hp⟩, fun x hx y hy e => by rw [nodup_inj b4 x hx y hy e], fun x hx y hy e => nodup_inj b3 x hx y hy e⟩
  have hro : ∀ p ∈ rout, rootRefs p.2 = [] ∧ ∃ q ∈ rin, q.1 = p.1 := fun p hp => by
    have := b2 p hp
    exact ⟨by simpa using this.1, by simpa using List.any_eq_true.1 this.2⟩
  have hargs := PassL.rep hp (RepT_append_mk (evAll hi n2) hcaps.toT)
  have hcall := hc w S (fun i => β (ρ i)) (calleeF Fs ρ rin) _ (callee_roots hi hin) hargs
  have hrun : (execOp a.eval o).run P w = .ok (.enter f (xs.toList.map a.eval ++ cvs).toArray) w := by
    simp only [execOp, ho, resolve, ef, Deferred.ofValue, Sem.run_bind, Sem.run_pure, Result.andThen_ok, invoke]
    rw [show (#[] ++ Array.map a.eval xs ++ cvs.toArray) = (xs.toList.map a.eval ++ cvs).toArray by apply Array.ext'; simp]
    exact hok w _
  unfold Oper.wp
  rw [hrun]
  show Calls P f _ w _
  refine hcall.mono fun e w' hpost => ?_
  obtain ⟨y, S', Fc, F, rfl, hx, hSS, hS', hR, hFc, hrep, hFn, hFo⟩ := hpost
  show K (a.put o.dst y) w'
  have hi2 := hi.call hin hro hx hSS hS' hR hFc
  have fromF0 : ∀ b, owned (calleeF Fs ρ rin) b ∨ w.heap.size ≤ b → Γ.F0 b ∨ Γ.w0.heap.size ≤ b := by
    rintro b (h | h)
    · obtain ⟨p, hp, hb'⟩ := owned_callee.1 h
      exact (hi.own _ b hb').2.2
    · exact .inr (Nat.le_trans hi.ext.size h)
  have hfree : FOk Γ w' S' (backF Fs Fc ρ rin) F := by
    intro b hb
    have h1 := hFo b hb
    refine ⟨h1.1, h1.2.1, fromF0 b h1.2.2.1, fun q hq => ?_⟩
    rcases backF_cases (Fs := Fs) (Fc := Fc) (ρ := ρ) (rin := rin) q with ⟨p, hp, rfl, e⟩ | ⟨hno, e⟩
    · rw [e] at hq; exact h1.2.2.2 _ hq
    · rw [e] at hq
      rcases h1.2.2.1 with h | h
      · obtain ⟨p, hp, hb'⟩ := owned_callee.1 h
        exact hi.disj (ρ p.1) q (hno p hp) b hb' hq
      · have := (hi.own q b hq).2.1; omega
  have hnp : ∀ i, i < widthT res + 1 → Γ.np ≤ n + i ∧ FreshName g (n + i) := fun i hi => hfr (n + i) (by
    simp only [freshFrom, List.mem_range'_1]; omega)
  have hfr2 : ∀ i, i < widthT res → FreshName (upd g (wrRoots ρ rin rout)) (n + i) := fun i hi' => (hnp i (by omega)).2.updAll fun p hp => by
    obtain ⟨q, hq, rfl⟩ := List.mem_map.1 hp
    refine ⟨fun e => ?_, fun e he => ?_⟩
    · have := (hnp i (by omega)).2 _ _ (rinNeed_spec n3 q hq)
      exact this.1 e
    · obtain ⟨x, rfl⟩ := look_rootSt_odd he
      exact names_noRefs (hro _ (look_rootSt_mem he)).1
  have hrep' : Rep w' S' res β y F := Rep.beta res y F (by rw [hm]; simp) hrep
  obtain ⟨β', Fs', hi3, hr3⟩ := place hi2 hrep' hFn hfree hm hfl hw (by have := (hnp 0 (by omega)).1; simpa using this) hfr2
  cases hdd : o.dst with
  | none =>
    have hK' := hK (a.put o.dst y) w'
    rw [hdd] at hK'
    refine hK' ⟨S', β', Fs', ?_⟩
    rw [List.nil_append, upd_append]
    exact hi3
  | some t' =>
    have e : t' = t := by
      rcases hd with h | h
      · rw [hdd] at h; cases h; rfl
      · rw [hdd] at h; cases h.1
    subst e
    have hK' := hK (a.put o.dst y) w'
    rw [hdd] at hK'
    refine hK' ⟨S', β', Fs', ?_⟩
    rw [upd_append, upd_append]
    exact hi3.put (by omega) hr3
end
end Go.Gx
