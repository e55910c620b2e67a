/- From a body to a contract. -/
import Derived.Test.YtggojehmbpbefaaGxM
namespace Go.Gx

def argSt (i : Nat) : List D → St
  | [] => []
  | d :: ds => (2 * i, .d d) :: argSt (i + 1) ds

theorem look_argSt_odd : ∀ (ds : List D) (i r : Nat) (l : St), look (argSt i ds ++ l) (2 * r + 1) = look l (2 * r + 1)
  | [], _, _, _ => rfl
  | d :: ds, i, r, l => by
    show (if 2 * r + 1 = 2 * i then some (Ent.d d) else look (argSt (i + 1) ds ++ l) (2 * r + 1)) = _
    rw [if_neg (by omega), look_argSt_odd ds]

theorem look_rootSt_even : ∀ (l : List (Nat × Root)) (t : Nat), look (rootSt l) (2 * t) = none
  | [], _ => rfl
  | p :: l, t => by
    show (if 2 * t = 2 * p.1 + 1 then some (Ent.r p.2) else look (rootSt l) (2 * t)) = none
    rw [if_neg (by omega), look_rootSt_even l]

theorem look_argSt_even : ∀ (ds : List D) (i t : Nat) (l : List (Nat × Root)), look (argSt i ds ++ rootSt l) (2 * t) = if i ≤ t then (ds[t - i]?).map Ent.d else none
  | [], i, t, l => by
    show look (rootSt l) (2 * t) = _
    rw [look_rootSt_even]; simp
  | d :: ds, i, t, l => by
    show (if 2 * t = 2 * i then some (Ent.d d) else look (argSt (i + 1) ds ++ rootSt l) (2 * t)) = _
    by_cases h : t = i
    · subst h; simp
    · rw [if_neg (by omega), look_argSt_even ds]
      by_cases h2 : i + 1 ≤ t
      · rw [if_pos h2, if_pos (by omega), show t - i = (t - (i + 1)) + 1 by omega, List.getElem?_cons_succ]
      · rw [if_neg h2, if_neg (by omega)]

theorem look_rootSt_mem : ∀ {l : List (Nat × Root)} {r : Nat} {x : Root}, look (rootSt l) (2 * r + 1) = some (.r x) → (r, x) ∈ l
  | [], _, _, h => by simp [rootSt, look] at h
  | p :: l, r, x, h => by
    have h' : (if 2 * r + 1 = 2 * p.1 + 1 then some (Ent.r p.2) else look (rootSt l) (2 * r + 1)) = some (.r x) := h
    by_cases e : r = p.1
    · rw [if_pos (by omega)] at h'; simp at h'; subst h'; subst e; simp
    · rw [if_neg (by omega)] at h'; exact List.mem_cons_of_mem _ (look_rootSt_mem h')

theorem look_rootSt_odd : ∀ {l : List (Nat × Root)} {r : Nat} {e : Ent}, look (rootSt l) (2 * r + 1) = some e → ∃ x, e = .r x
  | [], _, _, h => by simp [rootSt, look] at h
  | p :: l, r, e, h => by
    have h' : (if 2 * r + 1 = 2 * p.1 + 1 then some (Ent.r p.2) else look (rootSt l) (2 * r + 1)) = some e := h
    by_cases e' : r = p.1
    · rw [if_pos (by omega)] at h'; simp at h'; exact ⟨_, h'.symm⟩
    · rw [if_neg (by omega)] at h'; exact look_rootSt_odd h'

def rootRefs : Root → List Nat
  | .arr _ _ refs => refs
  | .mp _ => []

/-- How a body ends. -/
structure RetQ (T : Tab) (fn : Func) (np : Nat) (rout : List (Nat × Root)) (res : D) (st : St) : Prop where
  ex : ∃ ds l, outs st fn.results.toList = some (ds, l) ∧ outsP T st fn.results.toList ∧ resD ds = res ∧ l.Nodup ∧ ∀ p ∈ rout, p.1 ∉ l
  rts : ∀ p ∈ rout, look st (2 * p.1 + 1) = some (.r p.2) ∧ p.1 < np ∧ ∀ q ∈ rootRefs p.2, q < np
  men : ∀ r ∈ res.men, r < np

def retQ (T : Tab) (fn : Func) (np : Nat) (rout : List (Nat × Root)) (res : D) : Post
  | .normal, st => RetQ T fn np rout res st
  | .ret, st => RetQ T fn np rout res st
  | _, _ => False

theorem RepT_get {w : World} {S : Nat → Prop} {β : Beta} : ∀ {ds : List D} {ys : List Value}, RepT w S ds β ys [] → ∀ (i : Nat) (d : D), ds[i]? = some d → Rep w S d β (ys.getD i undef) [] := by
  intro ds ys h i d hd
  obtain ⟨y, hy, hr⟩ := RepT_nilF_get h hd
  rw [List.getD_eq_getElem?_getD, hy]
  exact hr

section
variable {P : Program} {T : Tab} {f : FuncId} {fn : Func} {c : Code} {rin rout : List (Nat × Root)} {args : List D} {res : D}

theorem inv_start {np : Nat} {w : World} {S : Nat → Prop} {β : Beta} {Fs : Nat → List Nat} {vs : List Value} (hk : args.length ≤ fn.ntmps) (hR : Roots (look (rootSt rin)) w S β Fs) (hA : RepT w S args β vs []) :
    Inv ⟨fn.ntmps, np, w, S, owned Fs, β⟩ (look (argSt 0 args ++ rootSt rin)) { tmps := vs.toArray ++ Array.replicate (fn.ntmps - vs.toArray.size) undef, defers := [] } w S β Fs where
  defers := rfl
  size := by have := RepT_length hA; simp; omega
  slots := fun t d ht => by
    rw [look_argSt_even] at ht
    simp only [Nat.zero_le, if_true, Nat.sub_zero] at ht
    cases hd : args[t]? with
    | none => rw [hd] at ht; cases ht
    | some d' =>
      rw [hd] at ht
      simp at ht; subst ht
      have := RepT_get hA t d' hd
      have hlt : t < vs.length := by rw [RepT_length hA]; exact (List.getElem?_eq_some_iff.1 hd).1
      have e : (vs.toArray ++ Array.replicate (fn.ntmps - vs.toArray.size) undef).getD t undef = vs.getD t undef := by
        simp only [Array.getD_eq_getD_getElem?, List.getD_eq_getElem?_getD]
        rw [Array.getElem?_append_left (by simpa using hlt)]
        simp
      rw [e]; exact this
  roots := fun r x hr => hR.roots r x (by rwa [look_argSt_odd] at hr)
  noroot := fun r hr => hR.noroot r (fun x hx => hr x (by rwa [look_argSt_odd]))
  nodup := hR.nodup
  disj := hR.disj
  own := fun r b hb => ⟨(hR.own r b hb).1, (hR.own r b hb).2, .inl ⟨r, hb⟩⟩
  s0 := fun _ h => h
  sOk := fun b hb => ⟨hR.sOk b hb, .inl hb⟩
  ext := Ext.refl _ _
  fix := fun _ _ => rfl

theorem flat_nodup {Fs : Nat → List Nat} (hn : ∀ r, (Fs r).Nodup) (hd : ∀ r r', r ≠ r' → ∀ b ∈ Fs r, b ∉ Fs r') : ∀ {l : List Nat}, l.Nodup → (l.flatMap Fs).Nodup
  | [], _ => by simp
  | r :: l, h => by
    rw [List.flatMap_cons]
    obtain ⟨h1, h2⟩ := List.nodup_cons.1 h
    refine List.nodup_append.2 ⟨hn r, flat_nodup hn hd h2, fun a ha b hb e => ?_⟩
    subst e
    obtain ⟨r', hr', hb'⟩ := List.mem_flatMap.1 hb
    exact hd r r' (fun e => h1 (e ▸ hr')) a ha hb'

theorem fnc_intro {np : Nat} (hT : TabOk P T) (hf : P.funcs[f]? = some fn) (hb : fn.body = some c) (hk : args.length ≤ fn.ntmps)
    (h : Tr P fn.ntmps np c (argSt 0 args ++ rootSt rin) (retQ T fn np rout res)) : FnC P f rin args rout res := by
  intro w S β Fs vs hR hA
  refine calls_of_wp hf hb (wp_mono (h _ rfl rfl _ _ ⟨S, β, Fs, inv_start hk hR hA⟩) ?_)
  intro e a' w' hq
  obtain ⟨st, hq, S', β', Fs', hi⟩ := hq
  have fin : RetQ T fn np rout res st → a'.defers = [] ∧ ∃ v, (results fn a'.tmps).run P w' = .ok v w' ∧ ∃ y S' Fs' F, Ending.returned v = .returned y ∧ Ext w w' (owned Fs) ∧ (∀ b, S b → S' b) ∧
      (∀ b, S' b → b < w'.heap.size ∧ (S b ∨ owned Fs b ∨ w.heap.size ≤ b)) ∧ Roots (look (rootSt rout)) w' S' β Fs' ∧ (∀ r b, b ∈ Fs' r → owned Fs b ∨ w.heap.size ≤ b) ∧
      Rep w' S' res β y F ∧ F.Nodup ∧ ∀ b ∈ F, ¬ S' b ∧ b < w'.heap.size ∧ (owned Fs b ∨ w.heap.size ≤ b) ∧ ∀ r, b ∉ Fs' r := by
    intro hret
    obtain ⟨⟨ds, l, h1, h2, rfl, hln, hlr⟩, hrts, hmen⟩ := hret
    obtain ⟨y, F, hrun, hrep, G, hperm⟩ := results_run hT hi h1 h2
    have hFl : ∀ b ∈ F, ∃ r ∈ l, b ∈ Fs' r := fun b hb => by
      have := hperm.mem_iff.1 (List.mem_append_left G hb)
      obtain ⟨r, hr, hb⟩ := List.mem_flatMap.1 this
      exact ⟨r, hr, hb⟩
    have hFn : F.Nodup := (List.nodup_append.1 ((hperm.nodup_iff).2 (flat_nodup hi.nodup hi.disj hln))).1
    have hβ : ∀ r, r < np → β' r = β r := hi.fix
    have hout : ∀ r x, look (rootSt rout) (2 * r + 1) = some (.r x) → look st (2 * r + 1) = some (.r x) ∧ r < np ∧ ∀ q ∈ rootRefs x, q < np := fun r x hx => hrts (r, x) (look_rootSt_mem hx)
    let Ff : Nat → List Nat := fun r => match look (rootSt rout) (2 * r + 1) with | some _ => Fs' r | none => []
    have hFf : ∀ r b, b ∈ Ff r → b ∈ Fs' r := by
      intro r b hb
      show b ∈ Fs' r
      have hb' : b ∈ (match look (rootSt rout) (2 * r + 1) with | some _ => Fs' r | none => []) := hb
      split at hb'
      · exact hb'
      · simp at hb'
    refine ⟨hi.defers, y, hrun, y, S', Ff, F, rfl, hi.ext, hi.s0, hi.sOk, ?_, ?_, Rep.beta _ y F (fun r hr => (hβ r (hmen r hr)).symm) hrep, hFn, ?_⟩
    · exact {
        roots := fun r x hx => by
          obtain ⟨k1, k2, k3⟩ := hout r x hx
          have hr := hi.roots r x k1
          have e : Ff r = Fs' r := by
            show (match look (rootSt rout) (2 * r + 1) with | some _ => Fs' r | none => []) = Fs' r
            rw [hx]
          rw [e, ← hβ r k2]
          cases x with
          | arr sz cells refs =>
            have er : β'.res refs = β.res refs := by
              funext q
              unfold Beta.res
              by_cases hq : refs.contains q = true
              · rw [if_pos hq, if_pos hq]; exact hβ q (k3 q (by show q ∈ refs; simpa using hq))
              · rw [if_neg hq, if_neg hq]
            cases eb : β' r with
            | none => rw [eb] at hr; exact hr
            | nil => rw [eb] at hr; exact hr
            | blk b o sz' m => rw [eb] at hr; simpa only [RootRep, er] using hr
          | mp es => cases eb : β' r <;> rw [eb] at hr <;> exact hr
        noroot := fun r hr => by
          show (match look (rootSt rout) (2 * r + 1) with | some _ => Fs' r | none => []) = []
          split
          · rename_i e he
            obtain ⟨x, rfl⟩ := look_rootSt_odd he
            exact absurd he (hr x)
          · rfl
        nodup := fun r => by
          show (match look (rootSt rout) (2 * r + 1) with | some _ => Fs' r | none => []).Nodup
          split
          · exact hi.nodup r
          · exact List.nodup_nil
        disj := fun r r' hne b hb hb' => hi.disj r r' hne b (hFf r b hb) (hFf r' b hb')
        own := fun r b hb => ⟨(hi.own r b (hFf r b hb)).1, (hi.own r b (hFf r b hb)).2.1⟩
        sOk := fun b hb => (hi.sOk b hb).1 }
    · exact fun r b hb => (hi.own r b (hFf r b hb)).2.2
    · intro b hb
      obtain ⟨r, hr, hbr⟩ := hFl b hb
      have ho := hi.own r b hbr
      refine ⟨ho.1, ho.2.1, ho.2.2, fun q hq => ?_⟩
      by_cases e : q = r
      · subst e
        have hq' : b ∈ (match look (rootSt rout) (2 * q + 1) with | some _ => Fs' q | none => []) := hq
        split at hq'
        · rename_i e he
          obtain ⟨x, rfl⟩ := look_rootSt_odd he
          exact hlr (q, x) (look_rootSt_mem he) hr
        · simp at hq'
      · exact hi.disj q r e b (hFf q b hq) hbr
  cases e with
  | normal => exact fin hq
  | ret => exact fin hq
  | exit id => exact hq.elim
  | goto l => exact hq.elim
  | panic ch => exact hq.elim
  | outgrown => exact hq.elim
end
end Go.Gx
