/- Calls. -/
import Derived.Test.YtggojehmbpbefaaGxN
namespace Go.Gx

/-- A value of the caller's, as the callee may know it: its names of roots by ρ. -/
def Pass (ρ : Nat → Nat) (d d' : D) : Prop := ∀ (w : World) (S : Nat → Prop) (β : Beta) (y : Value), Rep w S d β y [] → Rep w S d' (fun i => β (ρ i)) y []

def PassL (ρ : Nat → Nat) : List D → List D → Prop
  | [], [] => True
  | d :: ds, d' :: ds' => Pass ρ d d' ∧ PassL ρ ds ds'
  | _, _ => False

theorem PassL.rep {ρ : Nat → Nat} {w : World} {S : Nat → Prop} {β : Beta} : ∀ {ds ds' : List D} {ys : List Value}, PassL ρ ds ds' → RepT w S ds β ys [] → RepT w S ds' (fun i => β (ρ i)) ys []
  | [], [], ys, _, h => by unfold RepT at *; exact h
  | [], _ :: _, _, h, _ => h.elim
  | _ :: _, [], _, h, _ => h.elim
  | d :: ds, d' :: ds', ys, h, hr => by
    unfold RepT at hr ⊢
    obtain ⟨y, ys', F1, F2, rfl, e, h1, h2⟩ := hr
    simp only [List.nil_eq, List.append_eq_nil_iff] at e
    obtain ⟨rfl, rfl⟩ := e
    exact ⟨y, ys', [], [], rfl, rfl, h.1 _ _ _ _ h1, PassL.rep h.2 h2⟩

theorem Pass.any {ρ : Nat → Nat} {d : D} : Pass ρ d .any := fun _ _ _ _ _ => by unfold Rep; rfl
theorem Pass.same {ρ : Nat → Nat} {d : D} (h : d.men = []) : Pass ρ d d := fun _ _ _ _ hr => Rep.beta d _ _ (by rw [h]; simp) hr
theorem Pass.rs {ρ : Nat → Nat} {i r off n : Nat} (h : ρ i = r) : Pass ρ (.rs r off n) (.rs i off n) := fun _ _ _ _ hr => by
  subst h; unfold Rep at *; exact hr
theorem Pass.rp {ρ : Nat → Nat} {i r off : Nat} (h : ρ i = r) : Pass ρ (.rp r off) (.rp i off) := fun _ _ _ _ hr => by
  subst h; unfold Rep at *; exact hr
theorem Pass.rm {ρ : Nat → Nat} {i r : Nat} (h : ρ i = r) : Pass ρ (.rm r) (.rm i) := fun _ _ _ _ hr => by
  subst h; unfold Rep at *; exact hr

/-- A part of what a borrowed pointer sees. -/
theorem Pass.pt {ρ : Nat → Nat} {ds ds' : List D} {off n : Nat} (hoff : off ≤ ds.length) (h : (ds.drop off).take n = ds') (hn : ds'.length = n) : Pass ρ (.pt ds off) (.pt ds' 0) := fun w S β y hr => by
  unfold Rep at *
  obtain ⟨e, hm, b, o, ys, rfl, h1, ⟨pre, rest, E, fz, k1, rfl⟩, h3⟩ := hr
  have hly := RepL_length h3
  have hmen : menL ds' = [] := by
    cases hmm : menL ds' with
    | nil => rfl
    | cons m l =>
      have : m ∈ menL ds' := by rw [hmm]; simp
      rw [← h] at this
      have := menL_dt _ _ _ m this
      rw [hm] at this; cases this
  have hsub : RepL w S ds' noB ((ys.drop off).take n) [] := by
    have e : ds = ds.take off ++ ((ds.drop off).take n ++ (ds.drop off).drop n) := by rw [List.take_append_drop, List.take_append_drop]
    have h8 := h3
    rw [e] at h8
    obtain ⟨ya, y2, Fa, Fb, e1, e2, k1, k2⟩ := RepL_append h8
    obtain ⟨yb, yc, Fc, Fd, rfl, rfl, k3, k4⟩ := RepL_append k2
    simp only [List.nil_eq, List.append_eq_nil_iff] at e2
    obtain ⟨rfl, rfl, rfl⟩ := e2
    have l1 := RepL_length k1
    have l3 := RepL_length k3
    subst e1
    rw [h] at k3 l3
    simp at l1
    have e3 : ya.length = off := by omega
    have e4 : yb.length = n := by omega
    have : ((ya ++ (yb ++ yc)).drop off).take n = yb := by rw [← e3, List.drop_left, ← e4, List.take_left]
    rw [this]; exact k3
  refine ⟨e, hmen, b, pre.length + off, (ys.drop off).take n, by simp, h1, ⟨pre ++ ys.take off, (ys.drop off).drop n ++ rest, E, fz, ?_, by simp; omega⟩, hsub⟩
  rw [k1]
  congr 3
  have : ys = ys.take off ++ ((ys.drop off).take n ++ (ys.drop off).drop n) := by rw [List.take_append_drop, List.take_append_drop]
  calc pre ++ ys ++ rest = pre ++ (ys.take off ++ ((ys.drop off).take n ++ (ys.drop off).drop n)) ++ rest := by rw [← this]
    _ = _ := by simp only [List.append_assoc]

theorem Pass.fn {ρ : Nat → Nat} {f : FuncId} {caps caps' : List D} (h : PassL ρ caps caps') : Pass ρ (.fn f caps) (.fn f caps') := fun w S β y hr => by
  unfold Rep at *
  obtain ⟨ys, e, hr⟩ := hr
  refine ⟨ys, e, ?_⟩
  clear e
  induction caps generalizing caps' ys with
  | nil => cases caps' with
    | nil => unfold RepL at *; exact hr
    | cons _ _ => exact h.elim
  | cons d ds ih => cases caps' with
    | nil => exact h.elim
    | cons d' ds' =>
      unfold RepL at hr ⊢
      obtain ⟨y, ys', F1, F2, rfl, e, h0, h1, h2⟩ := hr
      simp only [List.nil_eq, List.append_eq_nil_iff] at e
      obtain ⟨rfl, rfl⟩ := e
      exact ⟨y, ys', [], [], rfl, rfl, h0, h.1 _ _ _ _ h1, ih h.2 ys' h2⟩

def CallOk (P : Program) (f : FuncId) : Prop := ∀ (w : World) (args : Array Value), (callFunc f args).run P w = .ok (.enter f args) w

theorem callOk_of {P : Program} {f : FuncId} {fn : Func} (hf : P.funcs[f]? = some fn) (hn : (fn.name == "runtime.NumGoroutine") = false) (hb : fn.body.isNone = false) : CallOk P f := fun w args => by
  simp only [callFunc, Sem.run_bind, run_program, Result.andThen_ok, hf, hn, hb, Bool.false_eq_true, if_false, Sem.run_pure]

/-! ### the caller's state behind a call -/
def wrRoots (ρ : Nat → Nat) (rin rout : List (Nat × Root)) : Wr := rin.map fun p => (2 * ρ p.1 + 1, look (rootSt rout) (2 * p.1 + 1))

theorem upd_wrRoots_even (g : X) (ρ : Nat → Nat) (rout : List (Nat × Root)) : ∀ (rin : List (Nat × Root)) (t : Nat), upd g (wrRoots ρ rin rout) (2 * t) = g (2 * t)
  | [], _ => rfl
  | p :: l, t => by
    show (if 2 * t = 2 * ρ p.1 + 1 then _ else upd g (wrRoots ρ l rout) (2 * t)) = _
    rw [if_neg (by omega), upd_wrRoots_even g ρ rout l]

theorem upd_wrRoots_out (g : X) (ρ : Nat → Nat) (rout : List (Nat × Root)) : ∀ (rin : List (Nat × Root)) (q : Nat), (∀ p ∈ rin, ρ p.1 ≠ q) → upd g (wrRoots ρ rin rout) (2 * q + 1) = g (2 * q + 1)
  | [], _, _ => rfl
  | p :: l, q, h => by
    show (if 2 * q + 1 = 2 * ρ p.1 + 1 then _ else upd g (wrRoots ρ l rout) (2 * q + 1)) = _
    have := h p (by simp)
    rw [if_neg (by omega), upd_wrRoots_out g ρ rout l q fun p hp => h p (by simp [hp])]

theorem upd_wrRoots_in (g : X) (ρ : Nat → Nat) (rout : List (Nat × Root)) : ∀ (rin : List (Nat × Root)) (p : Nat × Root), p ∈ rin → (∀ a ∈ rin, ∀ b ∈ rin, ρ a.1 = ρ b.1 → a.1 = b.1) → upd g (wrRoots ρ rin rout) (2 * ρ p.1 + 1) = look (rootSt rout) (2 * p.1 + 1)
  | [], _, h, _ => by cases h
  | q :: l, p, h, hinj => by
    show (if 2 * ρ p.1 + 1 = 2 * ρ q.1 + 1 then look (rootSt rout) (2 * q.1 + 1) else upd g (wrRoots ρ l rout) (2 * ρ p.1 + 1)) = _
    by_cases e : ρ p.1 = ρ q.1
    · rw [if_pos (by omega), hinj p h q (by simp) e]
    · rw [if_neg (by omega)]
      rcases List.mem_cons.1 h with rfl | h
      · exact absurd rfl e
      · exact upd_wrRoots_in g ρ rout l p h fun a ha b hb => hinj a (by simp [ha]) b (by simp [hb])

theorem look_rootSt_of : ∀ {l : List (Nat × Root)} {p : Nat × Root}, p ∈ l → (∀ a ∈ l, ∀ b ∈ l, a.1 = b.1 → a = b) → look (rootSt l) (2 * p.1 + 1) = some (.r p.2)
  | [], _, h, _ => by cases h
  | q :: l, p, h, hu => by
    show (if 2 * p.1 + 1 = 2 * q.1 + 1 then some (Ent.r q.2) else look (rootSt l) (2 * p.1 + 1)) = _
    by_cases e : p.1 = q.1
    · rw [if_pos (by omega), hu p h q (by simp) e]
    · rw [if_neg (by omega)]
      rcases List.mem_cons.1 h with rfl | h
      · exact absurd rfl e
      · exact look_rootSt_of h fun a ha b hb => hu a (by simp [ha]) b (by simp [hb])

section
variable {Γ : Ctx} {g : X} {a : Act} {w w' : World} {S S' : Nat → Prop} {β : Beta} {Fs Fc : Nat → List Nat} {ρ : Nat → Nat} {rin rout : List (Nat × Root)}

theorem RootRep.noRefs {β β' : Beta} {x : Root} {rb : RefB} {F : List Nat} (hr : rootRefs x = []) (h : RootRep w S β x rb F) : RootRep w S β' x rb F := by
  cases x with
  | arr sz cells refs =>
    have : refs = [] := hr
    subst this
    cases rb with
    | none => exact h
    | nil => exact h
    | blk b o sz' m => simpa only [RootRep, ← noB_res] using h
  | mp es => cases rb <;> exact h

/-- What the callee gets of the roots. -/
def calleeF (Fs : Nat → List Nat) (ρ : Nat → Nat) (rin : List (Nat × Root)) : Nat → List Nat := fun i => if rin.any (·.1 == i) then Fs (ρ i) else []

structure RinOk (g : X) (ρ : Nat → Nat) (rin : List (Nat × Root)) : Prop where
  there : ∀ p ∈ rin, g (2 * ρ p.1 + 1) = some (.r p.2) ∧ rootRefs p.2 = []
  inj : ∀ a ∈ rin, ∀ b ∈ rin, ρ a.1 = ρ b.1 → a.1 = b.1
  uniq : ∀ a ∈ rin, ∀ b ∈ rin, a.1 = b.1 → a = b

theorem mem_any {rin : List (Nat × Root)} {i : Nat} : rin.any (·.1 == i) = true ↔ ∃ p ∈ rin, p.1 = i := by simp [List.any_eq_true]

theorem callee_roots (hi : Inv Γ g a w S β Fs) (hr : RinOk g ρ rin) : Roots (look (rootSt rin)) w S (fun i => β (ρ i)) (calleeF Fs ρ rin) where
  roots := fun r x hx => by
    have hm := look_rootSt_mem hx
    have h1 := hr.there _ hm
    have : calleeF Fs ρ rin r = Fs (ρ r) := by unfold calleeF; rw [if_pos (mem_any.2 ⟨_, hm, rfl⟩)]
    rw [this]
    exact (hi.roots _ _ h1.1).noRefs h1.2
  noroot := fun r h => by
    unfold calleeF
    rw [if_neg]
    intro hm
    obtain ⟨p, hp, rfl⟩ := mem_any.1 hm
    exact h _ (look_rootSt_of hp hr.uniq)
  nodup := fun r => by unfold calleeF; split; exact hi.nodup _; exact List.nodup_nil
  disj := fun r r' hne b hb hb' => by
    unfold calleeF at hb hb'
    split at hb <;> split at hb' <;> simp_all
    rename_i h1 h2
    obtain ⟨x1, h1⟩ := h1
    obtain ⟨x2, h2⟩ := h2
    exact hi.disj (ρ r) (ρ r') (fun e => hne (hr.inj _ h1 _ h2 e)) b hb hb'
  own := fun r b hb => by
    unfold calleeF at hb
    split at hb
    · exact ⟨(hi.own _ b hb).1, (hi.own _ b hb).2.1⟩
    · simp at hb
  sOk := fun b hb => (hi.sOk b hb).1

theorem owned_callee {b : Nat} : owned (calleeF Fs ρ rin) b ↔ ∃ p ∈ rin, b ∈ Fs (ρ p.1) := by
  constructor
  · rintro ⟨r, hr⟩
    unfold calleeF at hr
    split at hr
    · rename_i h
      obtain ⟨p, hp, rfl⟩ := mem_any.1 h
      exact ⟨p, hp, hr⟩
    · simp at hr
  · rintro ⟨p, hp, hb⟩
    exact ⟨p.1, by unfold calleeF; rw [if_pos (mem_any.2 ⟨p, hp, rfl⟩)]; exact hb⟩

/-- The footprints behind the call. -/
def backF (Fs Fc : Nat → List Nat) (ρ : Nat → Nat) (rin : List (Nat × Root)) : Nat → List Nat := fun q => match rin.find? (fun p => ρ p.1 == q) with
  | some p => Fc p.1
  | none => Fs q

theorem backF_cases (q : Nat) : (∃ p ∈ rin, ρ p.1 = q ∧ backF Fs Fc ρ rin q = Fc p.1) ∨ ((∀ p ∈ rin, ρ p.1 ≠ q) ∧ backF Fs Fc ρ rin q = Fs q) := by
  unfold backF
  cases h : rin.find? (fun p => ρ p.1 == q) with
  | some p =>
    have h1 := List.find?_some h
    simp at h1
    exact .inl ⟨p, List.mem_of_find?_eq_some h, h1, rfl⟩
  | none =>
    refine .inr ⟨fun p hp e => ?_, rfl⟩
    have := List.find?_eq_none.1 h p hp
    simp [e] at this

theorem Inv.call (hi : Inv Γ g a w S β Fs) (hr : RinOk g ρ rin) (hro : ∀ p ∈ rout, rootRefs p.2 = [] ∧ ∃ q ∈ rin, q.1 = p.1) (hx : Ext w w' (owned (calleeF Fs ρ rin))) (hSS : ∀ b, S b → S' b)
    (hS' : ∀ b, S' b → b < w'.heap.size ∧ (S b ∨ owned (calleeF Fs ρ rin) b ∨ w.heap.size ≤ b)) (hR : Roots (look (rootSt rout)) w' S' (fun i => β (ρ i)) Fc)
    (hFc : ∀ r b, b ∈ Fc r → owned (calleeF Fs ρ rin) b ∨ w.heap.size ≤ b) : Inv Γ (upd g (wrRoots ρ rin rout)) a w' S' β (backF Fs Fc ρ rin) := by
  have notown : ∀ q, (∀ p ∈ rin, ρ p.1 ≠ q) → ∀ b ∈ Fs q, ¬ owned (calleeF Fs ρ rin) b := by
    intro q hq b hb ho
    obtain ⟨p, hp, hb'⟩ := owned_callee.1 ho
    exact hi.disj (ρ p.1) q (hq p hp) b hb' hb
  have hSw : ∀ b, S b → w'.heap[b]? = w.heap[b]? := fun b hb => hx.kept b (hi.sOk b hb).1 fun ho => by
    obtain ⟨p, hp, hb'⟩ := owned_callee.1 ho
    exact (hi.own _ b hb').1 hb
  have fromF0 : ∀ b, owned (calleeF Fs ρ rin) b ∨ w.heap.size ≤ b → Γ.F0 b ∨ Γ.w0.heap.size ≤ b := by
    rintro b (ho | hb)
    · obtain ⟨p, hp, hb'⟩ := owned_callee.1 ho
      exact (hi.own _ b hb').2.2
    · exact .inr (Nat.le_trans hi.ext.size hb)
  have hne : ∀ q, (∀ p ∈ rin, ρ p.1 ≠ q) → ∀ b ∈ Fs q, ∀ r, b ∉ Fc r := by
    intro q hq b hb r hbr
    rcases hFc r b hbr with ho | hge
    · exact notown q hq b hb ho
    · have := (hi.own q b hb).2.1; omega
  exact {
    defers := hi.defers
    size := hi.size
    slots := fun t d ht => by
      rw [upd_wrRoots_even] at ht
      exact Rep.mono hSw hSS d β _ [] (by simp) (hi.slots t d ht)
    roots := fun q x hq => by
      rcases backF_cases (Fs := Fs) (Fc := Fc) (ρ := ρ) (rin := rin) q with ⟨p, hp, rfl, e⟩ | ⟨hno, e⟩
      · rw [e]
        rw [upd_wrRoots_in g ρ rout rin p hp hr.inj] at hq
        have hm := look_rootSt_mem hq
        exact (hR.roots _ _ hq).noRefs (hro _ hm).1
      · rw [e]
        rw [upd_wrRoots_out g ρ rout rin q hno] at hq
        exact RootRep.mono hSw hSS (fun b hb => hx.kept b (hi.own q b hb).2.1 (notown q hno b hb)) (hi.roots q x hq)
    noroot := fun q hq => by
      rcases backF_cases (Fs := Fs) (Fc := Fc) (ρ := ρ) (rin := rin) q with ⟨p, hp, rfl, e⟩ | ⟨hno, e⟩
      · rw [e]
        refine hR.noroot _ fun x hx => hq x ?_
        rw [upd_wrRoots_in g ρ rout rin p hp hr.inj]; exact hx
      · rw [e]
        exact hi.noroot q fun x hx => hq x (by rw [upd_wrRoots_out g ρ rout rin q hno]; exact hx)
    nodup := fun q => by
      rcases backF_cases (Fs := Fs) (Fc := Fc) (ρ := ρ) (rin := rin) q with ⟨p, hp, rfl, e⟩ | ⟨hno, e⟩
      · rw [e]; exact hR.nodup _
      · rw [e]; exact hi.nodup _
    disj := fun q q' hqq b hb hb' => by
      rcases backF_cases (Fs := Fs) (Fc := Fc) (ρ := ρ) (rin := rin) q with ⟨p, hp, rfl, e⟩ | ⟨hno, e⟩ <;>
        rcases backF_cases (Fs := Fs) (Fc := Fc) (ρ := ρ) (rin := rin) q' with ⟨p', hp', rfl, e'⟩ | ⟨hno', e'⟩
      · rw [e] at hb; rw [e'] at hb'
        exact hR.disj p.1 p'.1 (fun h => hqq (by rw [h])) b hb hb'
      · rw [e] at hb; rw [e'] at hb'
        exact hne q' hno' b hb' _ hb
      · rw [e] at hb; rw [e'] at hb'
        exact hne q hno b hb _ hb'
      · rw [e] at hb; rw [e'] at hb'
        exact hi.disj q q' hqq b hb hb'
    own := fun q b hb => by
      rcases backF_cases (Fs := Fs) (Fc := Fc) (ρ := ρ) (rin := rin) q with ⟨p, hp, rfl, e⟩ | ⟨hno, e⟩
      · rw [e] at hb
        exact ⟨(hR.own _ b hb).1, (hR.own _ b hb).2, fromF0 b (hFc _ b hb)⟩
      · rw [e] at hb
        have h1 := hi.own q b hb
        refine ⟨fun hs => ?_, Nat.lt_of_lt_of_le h1.2.1 hx.size, h1.2.2⟩
        rcases (hS' b hs).2 with h | h | h
        · exact h1.1 h
        · exact notown q hno b hb h
        · omega
    s0 := fun b hb => hSS b (hi.s0 b hb)
    sOk := fun b hb => ⟨(hS' b hb).1, by
      rcases (hS' b hb).2 with h | h
      · exact (hi.sOk b h).2
      · exact .inr (fromF0 b h)⟩
    ext := ⟨hx.os.trans hi.ext.os, hx.tape.trans hi.ext.tape, hx.output.trans hi.ext.output, Nat.le_trans hi.ext.size hx.size, fun b hb hn =>
      (hx.kept b (Nat.lt_of_lt_of_le hb hi.ext.size) fun ho => by
        obtain ⟨p, hp, hb'⟩ := owned_callee.1 ho
        rcases (hi.own _ b hb').2.2 with h | h
        · exact hn h
        · omega).trans (hi.ext.kept b hb hn)⟩
    fix := hi.fix }
end
end Go.Gx
