/- Regions in which one operation waits for another through a third: the check of the orders, with waits at any remove. -/
import Derived.Test.YtjmjhhhglbeacaaGxMr
namespace Go.Gx
section
variable {ops : Array Oper}

theorem anyG_firstN {st : Nat → Option Step} {K : X → Prop} {i : Nat} {si : Step} (hi : st i = some si) : ∀ (fuel : Nat) (listed : Array Bool) (g : X), Shut ops listed →
    (∀ j sj, st j = some sj → j ≠ i → listed.getD j true = false → waitsN ops 12 j i = false → apartS si sj = true) →
    i ∈ Region.ready .any ops listed → Needs g si.need → wpAnyG ops st K fuel (listed.setIfInBounds i true) (upd g si.wr) → wpAnyG ops st K (fuel + 1) listed g := by
  intro fuel
  induction fuel with
  | zero =>
    intro listed g _ hfree hr hn H
    refine ⟨fun h => (by rw [h] at hr; cases hr), fun j hj => ?_⟩
    by_cases hji : j = i
    · subst hji; exact ⟨si, hi, hn, H⟩
    · have := ready_mono hj hji
      rw [H.1] at this
      cases this
  | succ fuel ih =>
    intro listed g hsh hfree hr hn H
    refine ⟨fun h => (by rw [h] at hr; cases hr), fun j hj => ?_⟩
    by_cases hji : j = i
    · subst hji; exact ⟨si, hi, hn, H⟩
    · obtain ⟨sj, hsj, h1⟩ := H.2 j (ready_mono hj hji)
      obtain ⟨hjun, oj, hoj, hall⟩ := mem_ready.1 hj
      have hnot : waitsN ops 12 j i = false := by
        rw [Bool.eq_false_iff]
        intro hw
        have h1 := hsh.waits 12 j i (fun o ho e he hb => by rw [hoj] at ho; cases ho; exact hall e he hb) hw
        have h0 := (mem_ready.1 hr).1
        rcases Nat.lt_or_ge i listed.size with h' | h'
        · simp [h'] at h0 h1; rw [h0] at h1; cases h1
        · simp [Array.getElem?_eq_none h'] at h1
      have h2 := exec_put (hfree j sj hsj hji hjun hnot) hn h1
      refine ⟨sj, hsj, exec_mono (fun g' h3 => ih (listed.setIfInBounds j true) g' (hsh.set hj) ?_ (ready_mono hr (Ne.symm hji)) h3.1 ?_) h2⟩
      · intro k sk hk hki hun hno
        refine hfree k sk hk hki ?_ hno
        by_cases hjk : j = k
        · subst hjk; exact hjun
        · rw [getD_set_ne true hjk] at hun; exact hun
      · rw [Array.setIfInBounds_comm _ _ hji]
        exact h3.2

/-- The check, with waits at any remove. -/
def lexN (ops : Array Oper) : List Step → Nat → Array Bool → Bool
  | [], _, listed => (Region.ready .any ops listed).isEmpty
  | s :: l, k, listed => (Region.ready .any ops listed).contains k && ((List.range l.length).all fun q => waitsB ops (k + 1 + q) k || (match l[q]? with | some t => apartS s t | none => true) || waitsN ops 12 (k + 1 + q) k) &&
      lexN ops l (k + 1) (listed.setIfInBounds k true)

theorem waitsN_of_B {j i : Nat} (h : waitsB ops j i = true) : waitsN ops 12 j i = true := by
  unfold waitsB at h
  unfold waitsN
  split at h
  · rename_i o ho
    rw [Array.any_eq_true] at h ⊢
    obtain ⟨q, hq, hb⟩ := h
    refine ⟨q, hq, ?_⟩
    simp only [Bool.and_eq_true] at hb ⊢
    exact ⟨hb.1, by rw [hb.2]; rfl⟩
  · cases h

theorem anyG_lexN {st : Nat → Option Step} {K : X → Prop} (hlen : ∀ j, (∃ o, ops[j]? = some o) → ∃ s, st j = some s) : ∀ (l : List Step) (k : Nat) (listed : Array Bool) (g : X), Shut ops listed → (∀ q, l[q]? = st (k + q)) → (∀ q, q < k → listed.getD q true = true) →
    lexN ops l k listed = true → chainN g l → K (runSteps g l) → wpAnyG ops st K l.length listed g
  | [], _, _, _, _, _, _, hB, _, h => ⟨by simpa [lexN] using hB, h⟩
  | s :: l, k, listed, g, hsh, hl, hb, hB, hc, h => by
    have h0 : st k = some s := by simpa using (hl 0).symm
    simp only [lexN, Bool.and_eq_true] at hB
    obtain ⟨⟨hr, hf⟩, hB'⟩ := hB
    have hr' : k ∈ Region.ready .any ops listed := by simpa using hr
    refine anyG_firstN h0 l.length listed g hsh ?_ hr' hc.1 ?_
    · intro j sj hj hjk hun hnw
      have hkj : k < j := by
        rcases Nat.lt_or_ge j k with h' | h'
        · rw [hb j h'] at hun; cases hun
        · omega
      have hq := hl (j - k)
      rw [show k + (j - k) = j by omega, hj, show j - k = (j - (k + 1)) + 1 by omega, List.getElem?_cons_succ] at hq
      have hlt := (List.getElem?_eq_some_iff.1 hq).1
      have hnb : waitsB ops j k = false := by
        rw [Bool.eq_false_iff]
        intro hw
        rw [waitsN_of_B hw] at hnw; cases hnw
      have := List.all_eq_true.1 hf (j - (k + 1)) (List.mem_range.2 hlt)
      rw [show k + 1 + (j - (k + 1)) = j by omega, hnb, hnw, Bool.false_or, Bool.or_false, hq] at this
      exact this
    · refine anyG_lexN hlen l (k + 1) _ _ (hsh.set hr') (fun q => ?_) (fun q hq => ?_) hB' hc.2 h
      · have := hl (q + 1)
        rw [List.getElem?_cons_succ] at this
        rw [this]; congr 1; omega
      · by_cases hqk : q = k
        · subst hqk
          obtain ⟨hun, _⟩ := mem_ready.1 hr'
          rcases Nat.lt_or_ge q listed.size with h' | h'
          · simp [h']
          · simp [Array.getElem?_eq_none h'] at hun
        · rw [getD_set_ne true (Ne.symm hqk)]; exact hb q (by omega)
end

section
variable {P : Program} {T : Tab} {N np : Nat} {ops : Array Oper} {st : St}

theorem draw_runN {Γ : Ctx} (hN : Γ.N = N) (hm : P.follows .mixedOrders = true) {l : List Step} {id : Nat} {Q : Exit → Act → World → Prop} {g : X} {a : Act} {w : World} (hv : stepsOK P ops N 0 l) (hlen : l.length = ops.size)
    (hlex : lexN ops l 0 (Array.replicate ops.size false) = true) (hnm : namesG ops l = true) (hc : chainN g l) (hf : ∀ s ∈ l, Names Γ.np g s.fresh) (hs : Sat Γ g a w)
    (hQ : ∀ a' w', Sat Γ (runSteps g l) a' w' → Q .normal a' w') : (Code.region id ops true).wp P Q a w := by
  have hs' : Sat Γ g a { w with drawn := w.drawn + 1 } := by
    obtain ⟨S, β, Fs, hi⟩ := hs
    exact ⟨S, β, Fs, hi.world (ext_drew w)⟩
  have hsh : Shut ops (Array.replicate ops.size false) := fun k o ho hk => by
    have hlt := (Array.getElem?_eq_some_iff.1 ho).1
    simp [hlt] at hk
  refine wp_region_any hm ?_
  have h := anyG_lexN (ops := ops) (st := fun i => l[i]?) (K := fun g' => g' = runSteps g l) (fun j ⟨o, ho⟩ => by
    have := (Array.getElem?_eq_some_iff.1 ho).1
    exact ⟨l[j]'(by omega), by simp⟩) l 0 (Array.replicate ops.size false) g hsh (by simp) (by omega) hlex hc rfl
  rw [hlen] at h
  exact any_of_anyG hN hv hlen hnm (fun g' a' w' e hs' => by subst e; exact hQ a' w' hs') _ _ g a _ hsh hs' (fun j s hj _ => hf s (List.mem_of_getElem? hj)) h

theorem tr_drawN (hm : P.follows .mixedOrders = true) {id : Nat} {l : List Step} {st' : St} {Q : Post} (hv : stepsOK P ops N 0 l) (hlen : l.length = ops.size) (hlex : lexN ops l 0 (Array.replicate ops.size false) = true)
    (hnm : namesG ops l = true) (hc : chainN (look st) l) (hf : ∀ s ∈ l, Names np (look st) s.fresh) (he : ∀ k e, look st' k = some e → runSteps (look st) l k = some e) (h : Q .normal st') :
    Tr P N np (.region id ops true) st Q := by
  intro Γ hN hn a w hs
  exact draw_runN hN hm hv hlen hlex hnm hc (fun s hs => hn ▸ hf s hs) hs fun a' w' hs' => by
    obtain ⟨S, β, Fs, hi⟩ := hs'
    obtain ⟨Fs', hi'⟩ := hi.weaken (g' := look st') he
    exact ⟨st', h, S, β, Fs', hi'⟩

def drawOKN (np : Nat) (ops : Array Oper) (st : St) (l : List Step) : Bool :=
  lexN ops l 0 (Array.replicate ops.size false) && namesG ops l && l.all fun s => s.fresh.all (freshB np st)

def runRegN (P : Program) (T : Tab) (N np : Nat) (ops : Array Oper) (draw : Bool) (st : St) (orcs : List (Nat × Orc)) (ks : List Nat) : Option (St × List Prop) :=
  match runOps P T N np ops orcs 0 ops.toList st with
  | some (l, st', cs) => if !draw || drawOKN np ops st l then
      match selSt st' ks with
      | some s => some (s, cs)
      | none => none
    else none
  | none => none

theorem tr_runN (hT : TabOk P T) (hm : P.follows .mixedOrders = true) {id : Nat} {draw : Bool} {orcs : List (Nat × Orc)} {ks : List Nat} {st' : St} {cs : List Prop} {Q : Post} (hc : AllP cs)
    (hN0 : 0 < N) (hrun : runRegN P T N np ops draw st orcs ks = some (st', cs)) (h : Q .normal st') : Tr P N np (.region id ops draw) st Q := by
  unfold runRegN at hrun
  split at hrun
  · rename_i l st1 cs1 h1
    split at hrun
    · rename_i hb
      split at hrun
      · rename_i s hs
        cases hrun
        obtain ⟨v, e, c, d, g⟩ := runOps_ok hT hN0 ops.toList 0 st (fun k o hk => by simpa using hk) h1 hc.all
        have hsub : ∀ k e, look st' k = some e → runSteps (look st) l k = some e := fun k e he => by rw [← g]; exact selSt_sub hs k e he
        cases draw with
        | false => exact tr_region v (by simpa using e) c hsub h
        | true =>
          simp only [Bool.not_true, Bool.false_or, drawOKN, Bool.and_eq_true, List.all_eq_true] at hb
          exact tr_drawN hm v (by simpa using e) hb.1.1 hb.1.2 d (fun s hs r hr => freshB_spec (hb.2 s hs r hr)) hsub h
      · cases hrun
    · cases hrun
  · cases hrun

theorem tr_rN (hT : TabOk P T) (hm : P.follows .mixedOrders = true) {id : Nat} {draw : Bool} (orcs : List (Nat × Orc)) (ks : List Nat) (st' : St) {cs : List Prop} {Q : Post} (hc : AllP cs)
    (hN0 : Nat.ble 1 N = true) (hrun : runRegN P T N np ops draw st orcs ks = some (st', cs)) (h : Q .normal st') : Tr P N np (.region id ops draw) st Q :=
  tr_runN hT hm hc (Nat.le_of_ble_eq_true hN0) hrun h
theorem tr_srN (hT : TabOk P T) (hm : P.follows .mixedOrders = true) {id : Nat} {draw : Bool} {y : Code} (orcs : List (Nat × Orc)) (ks : List Nat) (st' : St) {cs : List Prop} {Q : Post} (hc : AllP cs)
    (hN0 : Nat.ble 1 N = true) (hrun : runRegN P T N np ops draw st orcs ks = some (st', cs)) (h : Tr P N np y st' Q) : Tr P N np ((Code.region id ops draw).seq y) st Q :=
  tr_seq (tr_rN hT hm orcs ks st' hc hN0 hrun h)
end

end Go.Gx
