/- A region, run as a whole. -/
import Derived.Test.YtggojehmbpbefaaGxT
namespace Go.Gx

inductive AllP : List Prop → Prop
  | nil : AllP []
  | cons {p : Prop} {l : List Prop} : p → AllP l → AllP (p :: l)

theorem AllP.all {l : List Prop} (h : AllP l) : allP l := by
  induction h with
  | nil => trivial
  | cons h _ ih => exact ⟨h, ih⟩

def orcAt : List (Nat × Orc) → Nat → Orc
  | [], _ => .none
  | p :: l, i => if i = p.1 then p.2 else orcAt l i

def dstOK (N : Nat) (o : Oper) : Bool := match o.dst with
  | some t => decide (t < N)
  | none => true

def stepG (P : Program) (T : Tab) (ops : Array Oper) (st : St) (o : Oper) (orc : Orc) : Option Out :=
  match o.guard with
  | none => stepOp P T st o orc
  | some (j, b) => match (ops[j]?).bind (·.dst) with
    | some u => match look st (2 * u) with
      | some (.d (.v (.bool b'))) => if b' = b then
          match stepOp P T st o orc with
          | some out => some ⟨(2 * u, .d (.v (.bool b))) :: out.need, out.wr, out.fresh, out.conds⟩
          | none => none
        else match o.dst with
          | some t => some ⟨[(2 * u, .d (.v (.bool (!b))))], [(2 * t, some (.d .any))], [], []⟩
          | none => none
      | _ => none
    | none => none

def runOps (P : Program) (T : Tab) (N np : Nat) (ops : Array Oper) (orcs : List (Nat × Orc)) : Nat → List Oper → St → Option (List Step × St × List Prop)
  | _, [], st => some ([], st, [])
  | i, o :: os, st => match stepG P T ops st o (orcAt orcs i) with
    | some out => if dstOK N o && out.fresh.all (freshB np st) then
        match runOps P T N np ops orcs (i + 1) os (updSt st out.wr) with
        | some (l, st', cs) => some (⟨out.need, out.wr, out.fresh⟩ :: l, st', out.conds ++ cs)
        | none => none
      else none
    | none => none

def drawOK (np : Nat) (ops : Array Oper) (st : St) (l : List Step) : Bool :=
  lexG ops l 0 (Array.replicate ops.size false) && namesG ops l && l.all fun s => s.fresh.all (freshB np st)

def runReg (P : Program) (T : Tab) (N np : Nat) (ops : Array Oper) (draw : Bool) (st : St) (orcs : List (Nat × Orc)) (ks : List Nat) : Option (St × List Prop) :=
  match runOps P T N np ops orcs 0 ops.toList st with
  | some (l, st', cs) => if !draw || drawOK np ops st l then
      match selSt st' ks with
      | some s => some (s, cs)
      | none => none
    else none
  | none => none

section
variable {P : Program} {T : Tab} {N np : Nat} {ops : Array Oper} {st : St}

theorem stepG_ok (hT : TabOk P T) {i : Nat} {o : Oper} {orc : Orc} {out : Out} (ho : ops[i]? = some o) (hd : dstOK N o = true) (hN0 : 0 < N) (h : stepG P T ops st o orc = some out) (hc : allP out.conds) :
    OpV P ops N i ⟨out.need, out.wr, out.fresh⟩ ∧ Needs (look st) out.need := by
  have hN : ∀ t, o.dst = some t → t < N := fun t e => by simp only [dstOK, e, decide_eq_true_eq] at hd; exact hd
  unfold stepG at h
  split at h
  · rename_i hg
    obtain ⟨h1, h2⟩ := stepOp_ok hT hN hN0 h hc
    exact ⟨opv_plain ho hg h1, h2⟩
  · rename_i j b hg
    split at h
    · rename_i u hu
      split at h
      · rename_i b' hb
        split at h
        · rename_i e
          subst e
          split at h
          · rename_i out' h'
            cases h
            obtain ⟨h1, h2⟩ := stepOp_ok hT hN hN0 h' hc
            exact ⟨opv_on ho hg hu h1, hb, h2⟩
          · cases h
        · rename_i e
          have e2 : b' = !b := by cases b <;> cases b' <;> simp_all
          subst e2
          split at h
          · rename_i t ht
            cases h
            exact ⟨opv_off ho hg hu ht (hN t ht), hb, trivial⟩
          · cases h
      · cases h
    · cases h

theorem runOps_ok (hT : TabOk P T) (hN0 : 0 < N) {orcs : List (Nat × Orc)} : ∀ (os : List Oper) (i : Nat) (st : St) {l : List Step} {st' : St} {cs : List Prop}, (∀ k o, os[k]? = some o → ops[i + k]? = some o) →
    runOps P T N np ops orcs i os st = some (l, st', cs) → allP cs → stepsOK P ops N i l ∧ l.length = os.length ∧ chain np (look st) l ∧ chainN (look st) l ∧ look st' = runSteps (look st) l
  | [], i, st, l, st', cs, _, h, _ => by
    simp only [runOps, Option.some.injEq, Prod.mk.injEq] at h
    obtain ⟨rfl, rfl, rfl⟩ := h
    exact ⟨trivial, rfl, trivial, trivial, rfl⟩
  | o :: os, i, st, l, st', cs, ho, h, hc => by
    simp only [runOps] at h
    split at h
    · rename_i out hout
      split at h
      · rename_i hb
        simp only [Bool.and_eq_true, List.all_eq_true] at hb
        split at h
        · rename_i l1 st1 cs1 h1
          cases h
          rw [allP_append] at hc
          obtain ⟨v1, n1⟩ := stepG_ok hT (by simpa using ho 0 o rfl) hb.1 hN0 hout hc.1
          obtain ⟨v2, e2, c2, d2, g2⟩ := runOps_ok hT hN0 os (i + 1) (updSt st out.wr) (fun k o' hk => by
            have := ho (k + 1) o' (by simpa using hk)
            rwa [show i + 1 + k = i + (k + 1) by omega]) h1 hc.2
          rw [look_updSt] at c2 d2 g2
          exact ⟨⟨v1, v2⟩, by simp [e2], ⟨n1, fun r hr => freshB_spec (hb.2 r hr), c2⟩, ⟨n1, d2⟩, g2⟩
        · cases h
      · cases h
    · cases h

theorem tr_run (hT : TabOk P T) (hm : P.follows .mixedOrders = true) {id : Nat} {draw : Bool} {orcs : List (Nat × Orc)} {ks : List Nat} {st' : St} {cs : List Prop} {Q : Post} (hc : AllP cs)
    (hN0 : 0 < N) (hrun : runReg P T N np ops draw st orcs ks = some (st', cs)) (h : Q .normal st') : Tr P N np (.region id ops draw) st Q := by
  unfold runReg at hrun
  split at hrun
  · rename_i l st1 cs1 h1
    split at hrun
    · rename_i hb
      split at hrun
      · rename_i s hs
        cases hrun
        obtain ⟨v, e, c, d, g⟩ := runOps_ok hT hN0 ops.toList 0 st (fun k o hk => by simpa using hk) h1 hc.all
        have hsub : ∀ k e, look st' k = some e → runSteps (look st) l k = some e := fun k e he => by rw [← g]; exact selSt_sub hs k e he
        cases draw with
        | false => exact tr_region v (by simpa using e) c hsub h
        | true =>
          simp only [Bool.not_true, Bool.false_or, drawOK, Bool.and_eq_true, List.all_eq_true] at hb
          exact tr_draw hm v (by simpa using e) hb.1.1 hb.1.2 d (fun s hs r hr => freshB_spec (hb.2 s hs r hr)) hsub h
      · cases hrun
    · cases hrun
  · cases hrun
end
end Go.Gx
