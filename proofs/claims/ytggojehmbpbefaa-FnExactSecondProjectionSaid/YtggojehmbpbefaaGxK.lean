/- Regions: in the order of the text, and in every order. -/
import Derived.Test.YtggojehmbpbefaaGxJ
namespace Go.Gx

structure Step where
  need : List (Nat × Ent)
  wr : Wr
  fresh : List Nat

def Names (np : Nat) (g : X) (l : List Nat) : Prop := ∀ r ∈ l, np ≤ r ∧ FreshName g r

/-- Operation i of a region, wanted or not. -/
def OpV (P : Program) (ops : Array Oper) (N i : Nat) (s : Step) : Prop :=
  ∀ Γ, Γ.N = N → ∀ g a w K Q, Sat Γ g a w → Needs g s.need → Names Γ.np g s.fresh → (∀ a' w', Sat Γ (upd g s.wr) a' w' → K a' w') → wpOp P ops Q i K a w

section
variable {P : Program} {ops : Array Oper} {N i : Nat} {o : Oper}

theorem opv_plain {need : List (Nat × Ent)} {wr : Wr} {fresh : List Nat} (ho : ops[i]? = some o) (hg : o.guard = none) (h : OpX P o N need wr fresh) : OpV P ops N i ⟨need, wr, fresh⟩ := by
  intro Γ hN g a w K Q hs hn hf hK
  unfold wpOp
  simp only [ho, Region.wanted, hg, if_true]
  exact .inl (h Γ hN g a w K Q hs hn hf hK)

theorem yielded_of {Γ : Ctx} {g : X} {a : Act} {w : World} {j u : Nat} {b : Bool} (hs : Sat Γ g a w) (hj : (ops[j]?).bind (·.dst) = some u) (hn : g (2 * u) = some (.d (.v (.bool b)))) : yielded ops a.tmps j = some b := by
  obtain ⟨S, β, Fs, hi⟩ := hs
  have h := hi.slots u _ hn
  rw [Rep_v] at h
  have h1 := h.1
  simp only [Array.getD_eq_getD_getElem?] at h1
  unfold yielded
  rw [hj]
  simp only [Option.bind_some]
  cases e : a.tmps[u]? with
  | none => rw [e] at h1; simp [undef] at h1
  | some y => rw [e] at h1; simp at h1; rw [h1]

theorem opv_on {need : List (Nat × Ent)} {wr : Wr} {fresh : List Nat} {j u : Nat} {b : Bool} (ho : ops[i]? = some o) (hg : o.guard = some (j, b)) (hj : (ops[j]?).bind (·.dst) = some u)
    (h : OpX P o N need wr fresh) : OpV P ops N i ⟨(2 * u, .d (.v (.bool b))) :: need, wr, fresh⟩ := by
  intro Γ hN g a w K Q hs hn hf hK
  unfold wpOp
  simp only [ho, Region.wanted, hg, yielded_of hs hj hn.1, beq_self_eq_true, if_true]
  exact .inl (h Γ hN g a w K Q hs hn.2 hf hK)

theorem opv_off {j u t : Nat} {b : Bool} (ho : ops[i]? = some o) (hg : o.guard = some (j, b)) (hj : (ops[j]?).bind (·.dst) = some u) (hd : o.dst = some t) (ht : t < N) :
    OpV P ops N i ⟨[(2 * u, .d (.v (.bool (!b))))], [(2 * t, some (.d .any))], []⟩ := by
  intro Γ hN g a w K Q hs hn hf hK
  unfold wpOp
  have hy := yielded_of hs hj hn.1
  have : (some (!b) == some b) = false := by cases b <;> rfl
  simp only [ho, Region.wanted, hg, hy, this, Bool.false_eq_true, if_false]
  rw [hd]
  obtain ⟨S, β, Fs, hi⟩ := hs
  exact hK _ _ ⟨S, β, Fs, hi.put_any (by omega)⟩

def stepsOK (P : Program) (ops : Array Oper) (N : Nat) : Nat → List Step → Prop
  | _, [] => True
  | i, s :: l => OpV P ops N i s ∧ stepsOK P ops N (i + 1) l

theorem stepsOK.get : ∀ {l : List Step} {i : Nat}, stepsOK P ops N i l → ∀ {k : Nat} {s : Step}, l[k]? = some s → OpV P ops N (i + k) s
  | [], _, _, k, s, hk => by simp at hk
  | x :: l, i, h, 0, s, hk => by simp at hk; subst hk; exact h.1
  | x :: l, i, h, k + 1, s, hk => by
    have := stepsOK.get h.2 (k := k) (s := s) (by simpa using hk)
    rwa [show i + 1 + k = i + (k + 1) by omega] at this

def runSteps (g : X) : List Step → X
  | [] => g
  | s :: l => runSteps (upd g s.wr) l

def chain (np : Nat) (g : X) : List Step → Prop
  | [] => True
  | s :: l => Needs g s.need ∧ Names np g s.fresh ∧ chain np (upd g s.wr) l

/-- The order of the text. -/
theorem seq_run {Γ : Ctx} (hN : Γ.N = N) {Q : Exit → Act → World → Prop} : ∀ (l : List Step) (i : Nat) (g : X) (a : Act) (w : World), stepsOK P ops N i l → chain Γ.np g l → Sat Γ g a w →
    (∀ a' w', Sat Γ (runSteps g l) a' w' → Q .normal a' w') → wpOps P ops Q (List.range' i l.length) a w
  | [], i, g, a, w, _, _, hs, hQ => by simp only [List.length_nil, List.range'_zero, wpOps]; exact hQ a w hs
  | s :: l, i, g, a, w, hv, hc, hs, hQ => by
    rw [List.length_cons, List.range'_succ, wpOps_cons]
    exact hv.1 Γ hN g a w _ _ hs hc.1 hc.2.1 fun a' w' hs' => seq_run hN l (i + 1) _ a' w' hv.2 hc.2.2 hs' hQ

/-! ### every order -/
def execS (s : Step) (g : X) (K : X → Prop) : Prop := Needs g s.need ∧ K (upd g s.wr)

def wpAnyG (ops : Array Oper) (st : Nat → Option Step) (K : X → Prop) : Nat → Array Bool → X → Prop
  | 0, listed, g => Region.ready .any ops listed = [] ∧ K g
  | fuel + 1, listed, g => (Region.ready .any ops listed = [] → K g) ∧ ∀ i ∈ Region.ready .any ops listed, ∃ s, st i = some s ∧ execS s g (wpAnyG ops st K fuel (listed.setIfInBounds i true))

def waitsB (ops : Array Oper) (j k : Nat) : Bool := match ops[j]? with
  | some o => o.after.any fun e => Region.binds .any e && e.on == k
  | none => false

def keysN (s : Step) : List Nat := s.need.map (·.1)
def keysW (s : Step) : List Nat := s.wr.map (·.1)
def disjB (a b : List Nat) : Bool := a.all fun x => !b.contains x

def apartS (s t : Step) : Bool := disjB (keysW s) (keysN t) && disjB (keysW s) (keysW t) && disjB (keysN s) (keysW t)

def nonameB (s : Step) (l : List Nat) : Bool := s.wr.all fun p => match p.2 with
  | some e => l.all fun r => p.1 != 2 * r + 1 && !e.names r
  | none => true

theorem upd_other {g : X} : ∀ {l : Wr} {k : Nat}, k ∉ l.map (·.1) → upd g l k = g k
  | [], _, _ => rfl
  | (k', e) :: l, k, h => by
    simp only [List.map_cons, List.mem_cons, not_or] at h
    show (if k = k' then e else upd g l k) = g k
    rw [if_neg h.1, upd_other h.2]

theorem disjB_spec {a b : List Nat} (h : disjB a b = true) : ∀ x ∈ a, x ∉ b := fun x hx hb => by
  have := List.all_eq_true.1 h x hx
  simp [List.contains_iff_mem] at this
  exact this hb

theorem disjB_spec' {a b : List Nat} (h : disjB a b = true) : ∀ x ∈ b, x ∉ a := fun x hx hb => disjB_spec h x hb hx

theorem Needs.of_upd {g : X} {wr : Wr} : ∀ {l : List (Nat × Ent)}, (∀ x ∈ l.map (·.1), x ∉ wr.map (·.1)) → (Needs (upd g wr) l ↔ Needs g l)
  | [], _ => Iff.rfl
  | p :: l, h => by
    simp only [Needs]
    rw [upd_other (h p.1 (by simp)), Needs.of_upd fun x hx => h x (by simp at hx ⊢; exact .inr hx)]

theorem upd_mem {g g' : X} : ∀ {l : Wr} {k : Nat}, k ∈ l.map (·.1) → upd g l k = upd g' l k
  | (k', e) :: l, k, h => by
    show (if k = k' then e else upd g l k) = (if k = k' then e else upd g' l k)
    by_cases e' : k = k'
    · rw [if_pos e', if_pos e']
    · rw [if_neg e', if_neg e']
      simp only [List.map_cons, List.mem_cons] at h
      exact upd_mem (h.resolve_left e')

theorem upd_comm {g : X} {l l' : Wr} (h : ∀ x ∈ l.map (·.1), x ∉ l'.map (·.1)) : upd (upd g l) l' = upd (upd g l') l := by
  funext k
  by_cases h1 : k ∈ l.map (·.1)
  · rw [upd_other (h k h1), upd_mem (g' := upd g l') h1]
  · rw [upd_other (g := upd g l') h1]
    by_cases h2 : k ∈ l'.map (·.1)
    · rw [upd_mem (g' := g) h2]
    · rw [upd_other h2, upd_other h1, upd_other h2]

theorem exec_put {s t : Step} {g : X} {K : X → Prop} (hap : apartS s t = true) (hs : Needs g s.need) (h : execS t (upd g s.wr) K) :
    execS t g (fun g' => Needs g' s.need ∧ K (upd g' s.wr)) := by
  simp only [apartS, Bool.and_eq_true] at hap
  obtain ⟨⟨h1, h2⟩, h3⟩ := hap
  obtain ⟨hn, hk⟩ := h
  refine ⟨(Needs.of_upd (disjB_spec' h1)).1 hn, (Needs.of_upd (disjB_spec h3)).2 hs, ?_⟩
  rw [← upd_comm (disjB_spec h2)]
  exact hk

theorem exec_mono {s : Step} {g : X} {K K' : X → Prop} (h : ∀ g, K g → K' g) (hh : execS s g K) : execS s g K' := ⟨hh.1, h _ hh.2⟩

theorem anyG_first {st : Nat → Option Step} {K : X → Prop} {i : Nat} {si : Step} (hi : st i = some si) : ∀ (fuel : Nat) (listed : Array Bool) (g : X),
    (∀ j sj, st j = some sj → j ≠ i → listed.getD j true = false → waitsB ops j i = false → apartS si sj = true) →
    i ∈ Region.ready .any ops listed → Needs g si.need → wpAnyG ops st K fuel (listed.setIfInBounds i true) (upd g si.wr) → wpAnyG ops st K (fuel + 1) listed g := by
  intro fuel
  induction fuel with
  | zero =>
    intro listed g hfree hr hn H
    refine ⟨fun h => (by rw [h] at hr; cases hr), fun j hj => ?_⟩
    by_cases hji : j = i
    · subst hji; exact ⟨si, hi, hn, H⟩
    · have := ready_mono hj hji
      rw [H.1] at this
      cases this
  | succ fuel ih =>
    intro listed g hfree hr hn H
    refine ⟨fun h => (by rw [h] at hr; cases hr), fun j hj => ?_⟩
    by_cases hji : j = i
    · subst hji; exact ⟨si, hi, hn, H⟩
    · obtain ⟨sj, hsj, h1⟩ := H.2 j (ready_mono hj hji)
      obtain ⟨hjun, oj, hoj, hall⟩ := mem_ready.1 hj
      have hnot : waitsB ops j i = false := by
        unfold waitsB
        rw [hoj]
        simp only []
        rw [Bool.eq_false_iff]
        intro hany
        rw [Array.any_eq_true] at hany
        obtain ⟨q, hq, hb⟩ := hany
        simp only [Bool.and_eq_true, beq_iff_eq] at hb
        have h1 := hall oj.after[q] (Array.getElem_mem hq) hb.1
        have h0 := (mem_ready.1 hr).1
        rw [hb.2] at h1
        rcases Nat.lt_or_ge i listed.size with h' | h'
        · simp [h'] at h0 h1; rw [h0] at h1; cases h1
        · simp [Array.getElem?_eq_none h'] at h1
      have h2 := exec_put (hfree j sj hsj hji hjun hnot) hn h1
      refine ⟨sj, hsj, exec_mono (fun g' h3 => ih (listed.setIfInBounds j true) g' ?_ (ready_mono hr (Ne.symm hji)) h3.1 ?_) h2⟩
      · intro k sk hk hki hun hno
        refine hfree k sk hk hki ?_ hno
        by_cases hjk : j = k
        · subst hjk; exact hjun
        · rw [getD_set_ne true hjk] at hun; exact hun
      · rw [Array.setIfInBounds_comm _ _ hji]
        exact h3.2

/-- The check: at each place of the text the operation may come up, and whatever stands behind it waits for it or is apart from it. -/
def lexG (ops : Array Oper) : List Step → Nat → Array Bool → Bool
  | [], _, listed => (Region.ready .any ops listed).isEmpty
  | s :: l, k, listed => (Region.ready .any ops listed).contains k && ((List.range l.length).all fun q => waitsB ops (k + 1 + q) k || (match l[q]? with | some t => apartS s t | none => true)) &&
      lexG ops l (k + 1) (listed.setIfInBounds k true)

def chainN (g : X) : List Step → Prop
  | [] => True
  | s :: l => Needs g s.need ∧ chainN (upd g s.wr) l

theorem anyG_lex {st : Nat → Option Step} {K : X → Prop} (hlen : ∀ j, (∃ o, ops[j]? = some o) → ∃ s, st j = some s) : ∀ (l : List Step) (k : Nat) (listed : Array Bool) (g : X), (∀ q, l[q]? = st (k + q)) → (∀ q, q < k → listed.getD q true = true) →
    lexG ops l k listed = true → chainN g l → K (runSteps g l) → wpAnyG ops st K l.length listed g
  | [], _, _, _, _, _, hB, _, h => ⟨by simpa [lexG] using hB, h⟩
  | s :: l, k, listed, g, hl, hb, hB, hc, h => by
    have h0 : st k = some s := by simpa using (hl 0).symm
    simp only [lexG, Bool.and_eq_true] at hB
    obtain ⟨⟨hr, hf⟩, hB'⟩ := hB
    have hr' : k ∈ Region.ready .any ops listed := by simpa using hr
    refine anyG_first h0 l.length listed g ?_ hr' hc.1 ?_
    · intro j sj hj hjk hun hnw
      have hkj : k < j := by
        rcases Nat.lt_or_ge j k with h' | h'
        · rw [hb j h'] at hun; cases hun
        · omega
      have hq := hl (j - k)
      rw [show k + (j - k) = j by omega, hj, show j - k = (j - (k + 1)) + 1 by omega, List.getElem?_cons_succ] at hq
      have hlt := (List.getElem?_eq_some_iff.1 hq).1
      have := List.all_eq_true.1 hf (j - (k + 1)) (List.mem_range.2 hlt)
      rw [show k + 1 + (j - (k + 1)) = j by omega, hnw, Bool.false_or, hq] at this
      exact this
    · refine anyG_lex hlen l (k + 1) _ _ (fun q => ?_) (fun q hq => ?_) hB' hc.2 h
      · have := hl (q + 1)
        rw [List.getElem?_cons_succ] at this
        rw [this]; congr 1; omega
      · by_cases hqk : q = k
        · subst hqk
          obtain ⟨hun, _⟩ := mem_ready.1 hr'
          rcases Nat.lt_or_ge q listed.size with h' | h'
          · simp [h']
          · simp [Array.getElem?_eq_none h'] at hun
        · rw [getD_set_ne true (Ne.symm hqk)]; exact hb q (by omega)

/-- i waits for j, at first hand or through others. -/
def waitsN (ops : Array Oper) : Nat → Nat → Nat → Bool
  | 0, _, _ => false
  | n + 1, i, j => match ops[i]? with
    | some o => o.after.any fun e => Region.binds .any e && (e.on == j || waitsN ops n e.on j)
    | none => false

/-- What has come up has all that it waits for before it. -/
def Shut (ops : Array Oper) (listed : Array Bool) : Prop := ∀ k o, ops[k]? = some o → listed.getD k false = true → ∀ e ∈ o.after, Region.binds .any e = true → listed.getD e.on false = true

theorem Shut.waits {listed : Array Bool} (h : Shut ops listed) : ∀ (n i j : Nat), (∀ o, ops[i]? = some o → ∀ e ∈ o.after, Region.binds .any e = true → listed.getD e.on false = true) → waitsN ops n i j = true → listed.getD j false = true
  | 0, _, _, _, hw => by cases hw
  | n + 1, i, j, hi, hw => by
    unfold waitsN at hw
    split at hw
    · rename_i o ho
      rw [Array.any_eq_true] at hw
      obtain ⟨q, hq, hb⟩ := hw
      simp only [Bool.and_eq_true, Bool.or_eq_true, beq_iff_eq] at hb
      have h1 := hi o ho _ (Array.getElem_mem hq) hb.1
      rcases hb.2 with h2 | h2
      · rw [h2] at h1; exact h1
      · exact h.waits n _ j (fun o' ho' => h _ o' ho' h1) h2
    · cases hw

/-- No operation names the new root of another that need not have come up before it. -/
def namesG (ops : Array Oper) (l : List Step) : Bool :=
  (List.range l.length).all fun i => (List.range l.length).all fun j => i == j || waitsB ops i j || (match l[i]?, l[j]? with | some s, some t => nonameB s t.fresh | _, _ => true) || waitsN ops 12 i j

theorem FreshName.upd {g : X} {s : Step} {l : List Nat} {r : Nat} (h : FreshName g r) (hn : nonameB s l = true) (hr : r ∈ l) : FreshName (Gx.upd g s.wr) r := by
  intro k e he
  by_cases hk : k ∈ s.wr.map (·.1)
  · have : ∃ p ∈ s.wr, p.1 = k ∧ p.2 = some e := by
      generalize s.wr = wr at *
      clear hn
      induction wr with
      | nil => simp at hk
      | cons p wr ih =>
        obtain ⟨k', e'⟩ := p
        have he' : (if k = k' then e' else Gx.upd g wr k) = some e := he
        by_cases hkk : k = k'
        · rw [if_pos hkk] at he'; exact ⟨(k', e'), by simp, hkk.symm, he'⟩
        · rw [if_neg hkk] at he'
          simp only [List.map_cons, List.mem_cons] at hk
          obtain ⟨p, hp, h1⟩ := ih he' (hk.resolve_left hkk)
          exact ⟨p, by simp [hp], h1⟩
    obtain ⟨p, hp, rfl, h2⟩ := this
    have := List.all_eq_true.1 hn p hp
    rw [h2] at this
    have := List.all_eq_true.1 this r hr
    simpa using this
  · rw [upd_other hk] at he
    exact h k e he

theorem Shut.set {listed : Array Bool} (h : Shut ops listed) {i : Nat} (hi : i ∈ Region.ready .any ops listed) : Shut ops (listed.setIfInBounds i true) := by
  obtain ⟨hun, oi, hoi, hall⟩ := mem_ready.1 hi
  have mono : ∀ q, listed.getD q false = true → (listed.setIfInBounds i true).getD q false = true := by
    intro q hq
    by_cases hqi : i = q
    · subst hqi
      rcases Nat.lt_or_ge i listed.size with h' | h'
      · simp [h']
      · simp [Array.getElem?_eq_none h'] at hq
    · rw [getD_set_ne false hqi]; exact hq
  intro k o ho hk e he hb
  by_cases hki : i = k
  · subst hki
    rw [hoi] at ho; cases ho
    exact mono _ (hall e he hb)
  · rw [getD_set_ne false hki] at hk
    exact mono _ (h k o ho hk e he hb)

theorem any_of_anyG {Γ : Ctx} (hN : Γ.N = N) {l : List Step} (hv : stepsOK P ops N 0 l) (hlen : l.length = ops.size) (hnm : namesG ops l = true) {Q : Exit → Act → World → Prop} {K : X → Prop} (hQ : ∀ g a w, K g → Sat Γ g a w → Q .normal a w) :
    ∀ (fuel : Nat) (listed : Array Bool) (g : X) (a : Act) (w : World), Shut ops listed → Sat Γ g a w → (∀ j s, l[j]? = some s → listed.getD j true = false → Names Γ.np g s.fresh) →
      wpAnyG ops (fun i => l[i]?) K fuel listed g → wpAny P .any ops Q fuel listed a w
  | 0, _, _, _, _, _, hs, _, h => ⟨h.1, hQ _ _ _ h.2 hs⟩
  | fuel + 1, listed, g, a, w, hsh, hs, hf, h => by
    refine ⟨fun h0 => hQ _ _ _ (h.1 h0) hs, fun i hi => ?_⟩
    obtain ⟨s, hsi, hn, hk⟩ := h.2 i hi
    have hun := (mem_ready.1 hi).1
    have hV := hv.get hsi
    rw [Nat.zero_add] at hV
    refine hV Γ hN g a w _ _ hs hn (hf i s hsi hun) fun a' w' hs' => any_of_anyG hN hv hlen hnm hQ fuel _ _ a' w' (hsh.set hi) hs' ?_ hk
    intro j t ht hjun r hr
    have hji : i ≠ j := by
      rintro rfl
      rcases Nat.lt_or_ge i listed.size with h' | h'
      · simp [h'] at hjun
      · simp [Array.getElem?_eq_none h'] at hun
    rw [getD_set_ne true hji] at hjun
    have h1 := hf j t ht hjun r hr
    refine ⟨h1.1, h1.2.upd (l := t.fresh) ?_ hr⟩
    have hil := (List.getElem?_eq_some_iff.1 hsi).1
    have hjl := (List.getElem?_eq_some_iff.1 ht).1
    have := List.all_eq_true.1 (List.all_eq_true.1 hnm i (List.mem_range.2 hil)) j (List.mem_range.2 hjl)
    have hsi' : l[i]? = some s := hsi
    rw [hsi', ht] at this
    simp only [Bool.or_eq_true, beq_iff_eq] at this
    rcases this with ((h2 | h2) | h2) | h2
    · exact absurd h2 hji
    · exfalso
      obtain ⟨_, oi, hoi, hall⟩ := mem_ready.1 hi
      unfold waitsB at h2
      rw [hoi] at h2
      simp only [] at h2
      rw [Array.any_eq_true] at h2
      obtain ⟨q, hq, hb⟩ := h2
      simp only [Bool.and_eq_true, beq_iff_eq] at hb
      have h3 := hall oi.after[q] (Array.getElem_mem hq) hb.1
      rw [hb.2] at h3
      rcases Nat.lt_or_ge j listed.size with h' | h'
      · simp [h'] at hjun h3; rw [hjun] at h3; cases h3
      · simp [Array.getElem?_eq_none h'] at h3
    · exact h2
    · exfalso
      have h3 := hsh.waits 12 i j (fun o ho e he hb => by
        obtain ⟨_, oi, hoi, hall⟩ := mem_ready.1 hi
        rw [hoi] at ho; cases ho
        exact hall e he hb) h2
      rcases Nat.lt_or_ge j listed.size with h' | h'
      · simp [h'] at hjun h3; rw [hjun] at h3; cases h3
      · simp [Array.getElem?_eq_none h'] at h3

theorem draw_run {Γ : Ctx} (hN : Γ.N = N) (hm : P.follows .mixedOrders = true) {l : List Step} {id : Nat} {Q : Exit → Act → World → Prop} {g : X} {a : Act} {w : World} (hv : stepsOK P ops N 0 l) (hlen : l.length = ops.size)
    (hlex : lexG ops l 0 (Array.replicate ops.size false) = true) (hnm : namesG ops l = true) (hc : chainN g l) (hf : ∀ s ∈ l, Names Γ.np g s.fresh) (hs : Sat Γ g a w)
    (hQ : ∀ a' w', Sat Γ (runSteps g l) a' w' → Q .normal a' w') : (Code.region id ops true).wp P Q a w := by
  have hs' : Sat Γ g a { w with drawn := w.drawn + 1 } := by
    obtain ⟨S, β, Fs, hi⟩ := hs
    exact ⟨S, β, Fs, hi.world (ext_drew w)⟩
  refine wp_region_any hm ?_
  have h := anyG_lex (ops := ops) (st := fun i => l[i]?) (K := fun g' => g' = runSteps g l) (fun j ⟨o, ho⟩ => by
    have := (Array.getElem?_eq_some_iff.1 ho).1
    exact ⟨l[j]'(by omega), by simp⟩) l 0 (Array.replicate ops.size false) g (by simp) (by omega) hlex hc rfl
  rw [hlen] at h
  exact any_of_anyG hN hv hlen hnm (fun g' a' w' e hs' => by subst e; exact hQ a' w' hs') _ _ g a _ (fun k o ho hk => by
    have hlt := (Array.getElem?_eq_some_iff.1 ho).1
    simp [hlt] at hk) hs' (fun j s hj _ => hf s (List.mem_of_getElem? hj)) h
end
end Go.Gx
