import Derived.Test.YthafadgnjkmfkaaGxE0
import Derived.Laws.StructEq
import Derived.ChangeKeysEq
import Derived.WideKeyRuns
namespace Go.Gx
def Pass (ρ : Nat → Nat) (d d' : D) : Prop := ∀ (w : World) (S : Nat → Prop) (β : Beta) (y : Value), Rep w S d β y [] → Rep w S d' (fun i => β (ρ i)) y []
def PassL (ρ : Nat → Nat) : List D → List D → Prop
  | [], [] => True
  | d :: ds, d' :: ds' => Pass ρ d d' ∧ PassL ρ ds ds'
  | _, _ => False
theorem PassL.rep {ρ : Nat → Nat} {w : World} {S : Nat → Prop} {β : Beta} : ∀ {ds ds' : List D} {ys : List Value}, PassL ρ ds ds' → RepT w S ds β ys [] → RepT w S ds' (fun i => β (ρ i)) ys []
  | [], [], ys, _, h => by unfold RepT at *; exact h
  | [], _ :: _, _, h, _ => h.elim
  | _ :: _, [], _, h, _ => h.elim
  | d :: ds, d' :: ds', ys, h, hr => by
    unfold RepT at hr ⊢
    obtain ⟨y, ys', F1, F2, rfl, e, h1, h2⟩ := hr
    simp only [List.nil_eq, List.append_eq_nil_iff] at e
    obtain ⟨rfl, rfl⟩ := e
    exact ⟨y, ys', [], [], rfl, rfl, h.1 _ _ _ _ h1, PassL.rep h.2 h2⟩
theorem Pass.any {ρ : Nat → Nat} {d : D} : Pass ρ d .any := fun _ _ _ _ _ => by unfold Rep; rfl
theorem Pass.same {ρ : Nat → Nat} {d : D} (h : d.men = []) : Pass ρ d d := fun _ _ _ _ hr => Rep.beta d _ _ (by rw [h]; simp) hr
theorem Pass.rs {ρ : Nat → Nat} {i r off n : Nat} (h : ρ i = r) : Pass ρ (.rs r off n) (.rs i off n) := fun _ _ _ _ hr => by
  subst h; unfold Rep at *; exact hr
theorem Pass.rp {ρ : Nat → Nat} {i r off : Nat} (h : ρ i = r) : Pass ρ (.rp r off) (.rp i off) := fun _ _ _ _ hr => by
  subst h; unfold Rep at *; exact hr
theorem Pass.rm {ρ : Nat → Nat} {i r : Nat} (h : ρ i = r) : Pass ρ (.rm r) (.rm i) := fun _ _ _ _ hr => by
  subst h; unfold Rep at *; exact hr
theorem Pass.pt {ρ : Nat → Nat} {ds ds' : List D} {off n : Nat} (hoff : off ≤ ds.length) (h : (ds.drop off).take n = ds') (hn : ds'.length = n) : Pass ρ (.pt ds off) (.pt ds' 0) := fun w S β y hr => by
  unfold Rep at *
  obtain ⟨e, hm, b, o, ys, rfl, h1, ⟨pre, rest, E, fz, k1, rfl⟩, h3⟩ := hr
  have hly := RepL_length h3
  have hmen : menL ds' = [] := by
    cases hmm : menL ds' with
    | nil => rfl
    | cons m l =>
      have : m ∈ menL ds' := by rw [hmm]; simp
      rw [← h] at this
      have := menL_dt _ _ _ m this
      rw [hm] at this; cases this
  have hsub : RepL w S ds' noB ((ys.drop off).take n) [] := by
    have e : ds = ds.take off ++ ((ds.drop off).take n ++ (ds.drop off).drop n) := by rw [List.take_append_drop, List.take_append_drop]
    have h8 := h3
    rw [e] at h8
    obtain ⟨ya, y2, Fa, Fb, e1, e2, k1, k2⟩ := RepL_append h8
    obtain ⟨yb, yc, Fc, Fd, rfl, rfl, k3, k4⟩ := RepL_append k2
    simp only [List.nil_eq, List.append_eq_nil_iff] at e2
    obtain ⟨rfl, rfl, rfl⟩ := e2
    have l1 := RepL_length k1
    have l3 := RepL_length k3
    subst e1
    rw [h] at k3 l3
    simp at l1
    have e3 : ya.length = off := by omega
    have e4 : yb.length = n := by omega
    have : ((ya ++ (yb ++ yc)).drop off).take n = yb := by rw [← e3, List.drop_left, ← e4, List.take_left]
    rw [this]; exact k3
  refine ⟨e, hmen, b, pre.length + off, (ys.drop off).take n, by simp, h1, ⟨pre ++ ys.take off, (ys.drop off).drop n ++ rest, E, fz, ?_, by simp; omega⟩, hsub⟩
  rw [k1]
  congr 3
  have : ys = ys.take off ++ ((ys.drop off).take n ++ (ys.drop off).drop n) := by rw [List.take_append_drop, List.take_append_drop]
  calc pre ++ ys ++ rest = pre ++ (ys.take off ++ ((ys.drop off).take n ++ (ys.drop off).drop n)) ++ rest := by rw [← this]
    _ = _ := by simp only [List.append_assoc]
theorem Pass.fn {ρ : Nat → Nat} {f : FuncId} {caps caps' : List D} (h : PassL ρ caps caps') : Pass ρ (.fn f caps) (.fn f caps') := fun w S β y hr => by
  unfold Rep at *
  obtain ⟨ys, e, hr⟩ := hr
  refine ⟨ys, e, ?_⟩
  clear e
  induction caps generalizing caps' ys with
  | nil => cases caps' with
    | nil => unfold RepL at *; exact hr
    | cons _ _ => exact h.elim
  | cons d ds ih => cases caps' with
    | nil => exact h.elim
    | cons d' ds' =>
      unfold RepL at hr ⊢
      obtain ⟨y, ys', F1, F2, rfl, e, h0, h1, h2⟩ := hr
      simp only [List.nil_eq, List.append_eq_nil_iff] at e
      obtain ⟨rfl, rfl⟩ := e
      exact ⟨y, ys', [], [], rfl, rfl, h0, h.1 _ _ _ _ h1, ih h.2 ys' h2⟩
def CallOk (P : Program) (f : FuncId) : Prop := ∀ (w : World) (args : Array Value), (callFunc f args).run P w = .ok (.enter f args) w
theorem callOk_of {P : Program} {f : FuncId} {fn : Func} (hf : P.funcs[f]? = some fn) (hn : (fn.name == "runtime.NumGoroutine") = false) (hb : fn.body.isNone = false) : CallOk P f := fun w args => by
  simp only [callFunc, Sem.run_bind, run_program, Result.andThen_ok, hf, hn, hb, Bool.false_eq_true, if_false, Sem.run_pure]
def wrRoots (ρ : Nat → Nat) (rin rout : List (Nat × Root)) : Wr := rin.map fun p => (2 * ρ p.1 + 1, look (rootSt rout) (2 * p.1 + 1))
theorem upd_wrRoots_even (g : X) (ρ : Nat → Nat) (rout : List (Nat × Root)) : ∀ (rin : List (Nat × Root)) (t : Nat), upd g (wrRoots ρ rin rout) (2 * t) = g (2 * t)
  | [], _ => rfl
  | p :: l, t => by
    show (if 2 * t = 2 * ρ p.1 + 1 then _ else upd g (wrRoots ρ l rout) (2 * t)) = _
    rw [if_neg (by omega), upd_wrRoots_even g ρ rout l]
theorem upd_wrRoots_out (g : X) (ρ : Nat → Nat) (rout : List (Nat × Root)) : ∀ (rin : List (Nat × Root)) (q : Nat), (∀ p ∈ rin, ρ p.1 ≠ q) → upd g (wrRoots ρ rin rout) (2 * q + 1) = g (2 * q + 1)
  | [], _, _ => rfl
  | p :: l, q, h => by
    show (if 2 * q + 1 = 2 * ρ p.1 + 1 then _ else upd g (wrRoots ρ l rout) (2 * q + 1)) = _
    have := h p (by simp)
    rw [if_neg (by omega), upd_wrRoots_out g ρ rout l q fun p hp => h p (by simp [hp])]
theorem upd_wrRoots_in (g : X) (ρ : Nat → Nat) (rout : List (Nat × Root)) : ∀ (rin : List (Nat × Root)) (p : Nat × Root), p ∈ rin → (∀ a ∈ rin, ∀ b ∈ rin, ρ a.1 = ρ b.1 → a.1 = b.1) → upd g (wrRoots ρ rin rout) (2 * ρ p.1 + 1) = look (rootSt rout) (2 * p.1 + 1)
  | [], _, h, _ => by cases h
  | q :: l, p, h, hinj => by
    show (if 2 * ρ p.1 + 1 = 2 * ρ q.1 + 1 then look (rootSt rout) (2 * q.1 + 1) else upd g (wrRoots ρ l rout) (2 * ρ p.1 + 1)) = _
    by_cases e : ρ p.1 = ρ q.1
    · rw [if_pos (by omega), hinj p h q (by simp) e]
    · rw [if_neg (by omega)]
      rcases List.mem_cons.1 h with rfl | h
      · exact absurd rfl e
      · exact upd_wrRoots_in g ρ rout l p h fun a ha b hb => hinj a (by simp [ha]) b (by simp [hb])
theorem look_rootSt_of : ∀ {l : List (Nat × Root)} {p : Nat × Root}, p ∈ l → (∀ a ∈ l, ∀ b ∈ l, a.1 = b.1 → a = b) → look (rootSt l) (2 * p.1 + 1) = some (.r p.2)
  | [], _, h, _ => by cases h
  | q :: l, p, h, hu => by
    show (if 2 * p.1 + 1 = 2 * q.1 + 1 then some (Ent.r q.2) else look (rootSt l) (2 * p.1 + 1)) = _
    by_cases e : p.1 = q.1
    · rw [if_pos (by omega), hu p h q (by simp) e]
    · rw [if_neg (by omega)]
      rcases List.mem_cons.1 h with rfl | h
      · exact absurd rfl e
      · exact look_rootSt_of h fun a ha b hb => hu a (by simp [ha]) b (by simp [hb])
section
variable {Γ : Ctx} {g : X} {a : Act} {w w' : World} {S S' : Nat → Prop} {β : Beta} {Fs Fc : Nat → List Nat} {ρ : Nat → Nat} {rin rout : List (Nat × Root)}
theorem RootRep.sameRefs {β β' : Beta} {x : Root} {rb : RefB} {F : List Nat} (hr : ∀ q ∈ rootRefs x, β' q = β q) (h : RootRep w S β x rb F) : RootRep w S β' x rb F := by
  cases x with
  | arr sz cells refs =>
    have e : β'.res refs = β.res refs := by
      funext q
      unfold Beta.res
      split
      · rename_i hq; exact hr q (show q ∈ refs by simpa using hq)
      · rfl
    cases rb with
    | none => exact h
    | nil => exact h
    | blk b o sz' m => simpa only [RootRep, e] using h
  | mp es => cases rb <;> exact h
def calleeF (Fs : Nat → List Nat) (ρ : Nat → Nat) (rin : List (Nat × Root)) : Nat → List Nat := fun i => if rin.any (·.1 == i) then Fs (ρ i) else []
structure RinOk (g : X) (ρ : Nat → Nat) (rin : List (Nat × Root)) : Prop where
  there : ∀ p ∈ rin, g (2 * ρ p.1 + 1) = some (.r p.2) ∧ ∀ q ∈ rootRefs p.2, ρ q = q
  inj : ∀ a ∈ rin, ∀ b ∈ rin, ρ a.1 = ρ b.1 → a.1 = b.1
  uniq : ∀ a ∈ rin, ∀ b ∈ rin, a.1 = b.1 → a = b
theorem mem_any {rin : List (Nat × Root)} {i : Nat} : rin.any (·.1 == i) = true ↔ ∃ p ∈ rin, p.1 = i := by simp [List.any_eq_true]
theorem callee_roots (hi : Inv Γ g a w S β Fs) (hr : RinOk g ρ rin) : Roots (look (rootSt rin)) w S (fun i => β (ρ i)) (calleeF Fs ρ rin) where
  roots := fun r x hx => by
    have hm := look_rootSt_mem hx
    have h1 := hr.there _ hm
    have : calleeF Fs ρ rin r = Fs (ρ r) := by unfold calleeF; rw [if_pos (mem_any.2 ⟨_, hm, rfl⟩)]
    rw [this]
    exact (hi.roots _ _ h1.1).sameRefs fun q hq => congrArg β (h1.2 q hq)
  noroot := fun r h => by
    unfold calleeF
    rw [if_neg]
    intro hm
    obtain ⟨p, hp, rfl⟩ := mem_any.1 hm
    exact h _ (look_rootSt_of hp hr.uniq)
  nodup := fun r => by unfold calleeF; split; exact hi.nodup _; exact List.nodup_nil
  disj := fun r r' hne b hb hb' => by
    unfold calleeF at hb hb'
    split at hb <;> split at hb' <;> simp_all
    rename_i h1 h2
    obtain ⟨x1, h1⟩ := h1
    obtain ⟨x2, h2⟩ := h2
    exact hi.disj (ρ r) (ρ r') (fun e => hne (hr.inj _ h1 _ h2 e)) b hb hb'
  own := fun r b hb => by
    unfold calleeF at hb
    split at hb
    · exact ⟨(hi.own _ b hb).1, (hi.own _ b hb).2.1⟩
    · simp at hb
  sOk := fun b hb => (hi.sOk b hb).1
theorem owned_callee {b : Nat} : owned (calleeF Fs ρ rin) b ↔ ∃ p ∈ rin, b ∈ Fs (ρ p.1) := by
  constructor
  · rintro ⟨r, hr⟩
    unfold calleeF at hr
    split at hr
    · rename_i h
      obtain ⟨p, hp, rfl⟩ := mem_any.1 h
      exact ⟨p, hp, hr⟩
    · simp at hr
  · rintro ⟨p, hp, hb⟩
    exact ⟨p.1, by unfold calleeF; rw [if_pos (mem_any.2 ⟨p, hp, rfl⟩)]; exact hb⟩
def backF (Fs Fc : Nat → List Nat) (ρ : Nat → Nat) (rin : List (Nat × Root)) : Nat → List Nat := fun q => match rin.find? (fun p => ρ p.1 == q) with
  | some p => Fc p.1
  | none => Fs q
theorem backF_cases (q : Nat) : (∃ p ∈ rin, ρ p.1 = q ∧ backF Fs Fc ρ rin q = Fc p.1) ∨ ((∀ p ∈ rin, ρ p.1 ≠ q) ∧ backF Fs Fc ρ rin q = Fs q) := by
  unfold backF
  cases h : rin.find? (fun p => ρ p.1 == q) with
  | some p =>
    have h1 := List.find?_some h
    simp at h1
    exact .inl ⟨p, List.mem_of_find?_eq_some h, h1, rfl⟩
  | none =>
    refine .inr ⟨fun p hp e => ?_, rfl⟩
    have := List.find?_eq_none.1 h p hp
    simp [e] at this
theorem Inv.call (hi : Inv Γ g a w S β Fs) (hr : RinOk g ρ rin) (hro : ∀ p ∈ rout, (∀ q ∈ rootRefs p.2, ρ q = q) ∧ ∃ q ∈ rin, q.1 = p.1) (hx : Ext w w' (owned (calleeF Fs ρ rin))) (hSS : ∀ b, S b → S' b)
    (hS' : ∀ b, S' b → b < w'.heap.size ∧ (S b ∨ owned (calleeF Fs ρ rin) b ∨ w.heap.size ≤ b)) (hR : Roots (look (rootSt rout)) w' S' (fun i => β (ρ i)) Fc)
    (hFc : ∀ r b, b ∈ Fc r → owned (calleeF Fs ρ rin) b ∨ w.heap.size ≤ b) : Inv Γ (upd g (wrRoots ρ rin rout)) a w' S' β (backF Fs Fc ρ rin) := by
  have notown : ∀ q, (∀ p ∈ rin, ρ p.1 ≠ q) → ∀ b ∈ Fs q, ¬ owned (calleeF Fs ρ rin) b := by
    intro q hq b hb ho
    obtain ⟨p, hp, hb'⟩ := owned_callee.1 ho
    exact hi.disj (ρ p.1) q (hq p hp) b hb' hb
  have hSw : ∀ b, S b → w'.heap[b]? = w.heap[b]? := fun b hb => hx.kept b (hi.sOk b hb).1 fun ho => by
    obtain ⟨p, hp, hb'⟩ := owned_callee.1 ho
    exact (hi.own _ b hb').1 hb
  have fromF0 : ∀ b, owned (calleeF Fs ρ rin) b ∨ w.heap.size ≤ b → Γ.F0 b ∨ Γ.w0.heap.size ≤ b := by
    rintro b (ho | hb)
    · obtain ⟨p, hp, hb'⟩ := owned_callee.1 ho
      exact (hi.own _ b hb').2.2
    · exact .inr (Nat.le_trans hi.ext.size hb)
  have hne : ∀ q, (∀ p ∈ rin, ρ p.1 ≠ q) → ∀ b ∈ Fs q, ∀ r, b ∉ Fc r := by
    intro q hq b hb r hbr
    rcases hFc r b hbr with ho | hge
    · exact notown q hq b hb ho
    · have := (hi.own q b hb).2.1; omega
  exact {
    defers := hi.defers
    size := hi.size
    slots := fun t d ht => by
      rw [upd_wrRoots_even] at ht
      exact Rep.mono hSw hSS d β _ [] (by simp) (hi.slots t d ht)
    roots := fun q x hq => by
      rcases backF_cases (Fs := Fs) (Fc := Fc) (ρ := ρ) (rin := rin) q with ⟨p, hp, rfl, e⟩ | ⟨hno, e⟩
      · rw [e]
        rw [upd_wrRoots_in g ρ rout rin p hp hr.inj] at hq
        have hm := look_rootSt_mem hq
        exact (hR.roots _ _ hq).sameRefs fun q hq => (congrArg β ((hro _ hm).1 q hq)).symm
      · rw [e]
        rw [upd_wrRoots_out g ρ rout rin q hno] at hq
        exact RootRep.mono hSw hSS (fun b hb => hx.kept b (hi.own q b hb).2.1 (notown q hno b hb)) (hi.roots q x hq)
    noroot := fun q hq => by
      rcases backF_cases (Fs := Fs) (Fc := Fc) (ρ := ρ) (rin := rin) q with ⟨p, hp, rfl, e⟩ | ⟨hno, e⟩
      · rw [e]
        refine hR.noroot _ fun x hx => hq x ?_
        rw [upd_wrRoots_in g ρ rout rin p hp hr.inj]; exact hx
      · rw [e]
        exact hi.noroot q fun x hx => hq x (by rw [upd_wrRoots_out g ρ rout rin q hno]; exact hx)
    nodup := fun q => by
      rcases backF_cases (Fs := Fs) (Fc := Fc) (ρ := ρ) (rin := rin) q with ⟨p, hp, rfl, e⟩ | ⟨hno, e⟩
      · rw [e]; exact hR.nodup _
      · rw [e]; exact hi.nodup _
    disj := fun q q' hqq b hb hb' => by
      rcases backF_cases (Fs := Fs) (Fc := Fc) (ρ := ρ) (rin := rin) q with ⟨p, hp, rfl, e⟩ | ⟨hno, e⟩ <;>
        rcases backF_cases (Fs := Fs) (Fc := Fc) (ρ := ρ) (rin := rin) q' with ⟨p', hp', rfl, e'⟩ | ⟨hno', e'⟩
      · rw [e] at hb; rw [e'] at hb'
        exact hR.disj p.1 p'.1 (fun h => hqq (by rw [h])) b hb hb'
      · rw [e] at hb; rw [e'] at hb'
        exact hne q' hno' b hb' _ hb
      · rw [e] at hb; rw [e'] at hb'
        exact hne q hno b hb _ hb'
      · rw [e] at hb; rw [e'] at hb'
        exact hi.disj q q' hqq b hb hb'
    own := fun q b hb => by
      rcases backF_cases (Fs := Fs) (Fc := Fc) (ρ := ρ) (rin := rin) q with ⟨p, hp, rfl, e⟩ | ⟨hno, e⟩
      · rw [e] at hb
        exact ⟨(hR.own _ b hb).1, (hR.own _ b hb).2, fromF0 b (hFc _ b hb)⟩
      · rw [e] at hb
        have h1 := hi.own q b hb
        refine ⟨fun hs => ?_, Nat.lt_of_lt_of_le h1.2.1 hx.size, h1.2.2⟩
        rcases (hS' b hs).2 with h | h | h
        · exact h1.1 h
        · exact notown q hno b hb h
        · omega
    s0 := fun b hb => hSS b (hi.s0 b hb)
    sOk := fun b hb => ⟨(hS' b hb).1, by
      rcases (hS' b hb).2 with h | h
      · exact (hi.sOk b h).2
      · exact .inr (fromF0 b h)⟩
    ext := ⟨hx.os.trans hi.ext.os, hx.tape.trans hi.ext.tape, hx.output.trans hi.ext.output, Nat.le_trans hi.ext.size hx.size, fun b hb hn =>
      (hx.kept b (Nat.lt_of_lt_of_le hb hi.ext.size) fun ho => by
        obtain ⟨p, hp, hb'⟩ := owned_callee.1 ho
        rcases (hi.own _ b hb').2.2 with h | h
        · exact hn h
        · omega).trans (hi.ext.kept b hb hn)⟩
    fix := hi.fix }
end
end Go.Gx
namespace Go.Gx
def plc1 (n : Nat) : D → D × List (Nat × Root)
  | .fr sz k ds => (.rs n 0 k, [(n, .arr sz ds [])])
  | d => (d, [])
def plcL (n : Nat) : List D → List D × List (Nat × Root)
  | [] => ([], [])
  | d :: ds => ((plc1 n d).1 :: (plcL (n + 1) ds).1, (plc1 n d).2 ++ (plcL (n + 1) ds).2)
def plcA (n : Nat) : D → D × List (Nat × Root)
  | .agg ds => (.agg (plcL n ds).1, (plcL n ds).2)
  | d => plc1 n d
def plcT (n : Nat) : List D → List D × List (Nat × Root)
  | [] => ([], [])
  | d :: ds => ((plcA n d).1 :: (plcT (n + 100) ds).1, (plcA n d).2 ++ (plcT (n + 100) ds).2)
def plc (n : Nat) : D → D × List (Nat × Root)
  | .tup ds => (.tup (plcT n ds).1, (plcT n ds).2)
  | d => plcA n d
def wrNew (l : List (Nat × Root)) : Wr := (l.map fun p => (2 * p.1 + 1, some (Ent.r p.2))).reverse
theorem FreshName.updAll {g : X} {wr : Wr} {r : Nat} (h : FreshName g r) (hw : ∀ p ∈ wr, p.1 ≠ 2 * r + 1 ∧ ∀ e, p.2 = some e → e.names r = false) : FreshName (Gx.upd g wr) r := by
  induction wr with
  | nil => exact h
  | cons p wr ih =>
    intro k e he
    have he' : (if k = p.1 then p.2 else Gx.upd g wr k) = some e := he
    by_cases hk : k = p.1
    · rw [if_pos hk] at he'
      have := hw p (by simp)
      exact ⟨by rw [hk]; exact this.1, this.2 e he'⟩
    · rw [if_neg hk] at he'
      exact ih (fun q hq => hw q (by simp [hq])) k e he'
theorem names_noRefs {x : Root} {r : Nat} (hx : rootRefs x = []) : (Ent.r x).names r = false := by
  cases x with
  | arr sz cells refs => have : refs = [] := hx; subst this; rfl
  | mp es => rfl
theorem names_refs {x : Root} {r : Nat} (hx : ∀ q ∈ rootRefs x, q ≠ r) : (Ent.r x).names r = false := by
  cases x with
  | arr sz cells refs =>
    have : ∀ q ∈ refs, q ≠ r := hx
    show refs.contains r = false
    rw [Bool.eq_false_iff]
    intro h
    exact this r (by simpa using h) rfl
  | mp es => rfl
section
variable {Γ : Ctx} {a : Act} {w : World} {S : Nat → Prop}
structure Placed (Γ : Ctx) (g : X) (a : Act) (w : World) (S : Nat → Prop) (β : Beta) (Fs : Nat → List Nat) (F G : List Nat) (l : List (Nat × Root)) (β' : Beta) (Fs' : Nat → List Nat) : Prop where
  inv : Inv Γ (upd g (wrNew l)) a w S β' Fs'
  same : ∀ r, (∀ p ∈ l, p.1 ≠ r) → β' r = β r
  foot : ∀ r b, b ∈ Fs' r → b ∈ Fs r ∨ b ∈ F
def FOk (Γ : Ctx) (w : World) (S : Nat → Prop) (Fs : Nat → List Nat) (F : List Nat) : Prop := ∀ b ∈ F, ¬ S b ∧ b < w.heap.size ∧ (Γ.F0 b ∨ Γ.w0.heap.size ≤ b) ∧ ∀ r, b ∉ Fs r
theorem wrNew_append (l l' : List (Nat × Root)) : wrNew (l ++ l') = wrNew l' ++ wrNew l := by simp [wrNew]
theorem FreshName.wrNew {g : X} {r : Nat} (h : FreshName g r) {l : List (Nat × Root)} (hl : ∀ p ∈ l, rootRefs p.2 = [] ∧ p.1 ≠ r) : FreshName (Gx.upd g (Gx.wrNew l)) r :=
  h.updAll fun p hp => by
    simp only [Gx.wrNew, List.mem_reverse, List.mem_map] at hp
    obtain ⟨q, hq, rfl⟩ := hp
    exact ⟨by have := (hl q hq).2; omega, fun e he => by cases he; exact names_noRefs (hl q hq).1⟩
theorem place1 {g : X} {β : Beta} {Fs : Nat → List Nat} {d : D} {y : Value} {F : List Nat} {n : Nat} (hi : Inv Γ g a w S β Fs) (h : Rep w S d β y F) (hF : F.Nodup) (hok : FOk Γ w S Fs F) (hm : d.men = [])
    (hn : Γ.np ≤ n) (hf : FreshName g n) :
    ∃ β' Fs', Placed Γ g a w S β Fs F [] (plc1 n d).2 β' Fs' ∧ ∃ F', Rep w S (plc1 n d).1 β' y F' ∧ (d.noFr = true ∨ (∃ sz k ds, d = .fr sz k ds) → F' = []) ∧ (∀ b ∈ F', b ∈ F) := by
  by_cases hfr : ∃ sz k ds, d = .fr sz k ds
  · obtain ⟨sz, k, ds, rfl⟩ := hfr
    unfold Rep at h
    obtain ⟨aa, cap, rfl, hl, hmn, h⟩ := h
    rcases h with ⟨rfl, rfl, rfl, rfl⟩ | ⟨b, o, pre, ys, rest, E, F', rfl, k1, k2, k3, k4, rfl, k5⟩
    · have hds : ds = [] := List.eq_nil_of_length_eq_zero (by simpa using hl)
      subst hds
      refine ⟨_, _, ⟨hi.newRoot (x := .arr sz [] []) (rb := .nil) (F := []) hn hf ⟨rfl, rfl⟩ List.nodup_nil (by simp), fun r hr => ?_, fun r b hb => ?_⟩, [], ?_, fun _ => rfl, by simp⟩
      · have := hr (n, .arr sz [] []) (by simp [plc1])
        unfold setB; rw [if_neg (Ne.symm this)]
      · unfold setF at hb; split at hb
        · simp at hb
        · exact .inl hb
      · unfold plc1 Rep; simp [setB]
    · refine ⟨_, _, ⟨hi.newRoot (x := .arr sz ds []) (rb := .blk b o sz (pre ++ ys ++ rest).length) (F := b :: F') hn hf ⟨rfl, pre, ys, rest, E, F', k3, rfl, k4, rfl, by rw [← noB_res]; exact k5, by rw [hmn]; simp⟩ hF hok, fun r hr => ?_, fun r c hc => ?_⟩, [], ?_, fun _ => rfl, by simp⟩
      · have := hr (n, .arr sz ds []) (by simp [plc1])
        unfold setB; rw [if_neg (Ne.symm this)]
      · unfold setF at hc; split at hc
        · exact .inr hc
        · exact .inl hc
      · unfold plc1 Rep
        refine ⟨rfl, ?_⟩
        simp only [setB, if_true]
        exact ⟨cap, by simp, k1, by simpa using k2⟩
  · have e : plc1 n d = (d, []) := by cases d <;> first | rfl | exact absurd ⟨_, _, _, rfl⟩ hfr
    rw [e]
    exact ⟨β, Fs, ⟨hi, fun _ _ => rfl, fun r b hb => .inl hb⟩, F, h, fun hc => by
      rcases hc with hc | hc
      · exact Rep.noF hc h
      · exact absurd hc hfr, fun b hb => hb⟩
def flat1 : D → Bool
  | .fr _ _ _ => true
  | d => d.noFr
def flatD : D → Bool
  | .agg ds => ds.all flat1
  | d => flat1 d
def flatT : D → Bool
  | .tup ds => ds.all flatD
  | d => flatD d
theorem flat1_spec {d : D} (h : flat1 d = true) : d.noFr = true ∨ ∃ sz k ds, d = .fr sz k ds := by
  cases d <;> first | exact .inr ⟨_, _, _, rfl⟩ | exact .inl h
theorem plcL_names : ∀ (ds : List D) (n : Nat), ∀ p ∈ (plcL n ds).2, n ≤ p.1 ∧ p.1 < n + ds.length ∧ rootRefs p.2 = []
  | [], _, p, hp => by simp [plcL] at hp
  | d :: ds, n, p, hp => by
    simp only [plcL, List.mem_append] at hp
    rcases hp with hp | hp
    · cases d <;> simp [plc1] at hp
      subst hp; exact ⟨Nat.le_refl _, by simp, rfl⟩
    · have := plcL_names ds (n + 1) p hp
      exact ⟨by omega, by simp; omega, this.2.2⟩
theorem men_nil {d : D} {ds : List D} (h : menL (d :: ds) = []) : d.men = [] ∧ menL ds = [] := by
  simpa [menL] using h
theorem placeL : ∀ {ds : List D} {g : X} {β : Beta} {Fs : Nat → List Nat} {ys : List Value} {F : List Nat} {n : Nat}, Inv Γ g a w S β Fs → RepL w S ds β ys F → F.Nodup → FOk Γ w S Fs F → menL ds = [] → ds.all flat1 = true →
    Γ.np ≤ n → (∀ i, i < ds.length → FreshName g (n + i)) → ∃ β' Fs', Placed Γ g a w S β Fs F [] (plcL n ds).2 β' Fs' ∧ RepL w S (plcL n ds).1 β' ys [] ∧ (∀ m ∈ menL (plcL n ds).1, n ≤ m ∧ m < n + ds.length)
  | [], g, β, Fs, ys, F, n, hi, h, _, _, _, _, _, _ => by
    unfold RepL at h
    obtain ⟨rfl, rfl⟩ := h
    exact ⟨β, Fs, ⟨hi, fun _ _ => rfl, fun r b hb => .inl hb⟩, RepL_nil, by simp [plcL, menL]⟩
  | d :: ds, g, β, Fs, ys, F, n, hi, h, hF, hok, hm, hfl, hn, hf => by
    unfold RepL at h
    obtain ⟨y, ys', F1, F2, rfl, rfl, h0, h1, h2⟩ := h
    obtain ⟨hm1, hm2⟩ := men_nil hm
    simp only [List.all_cons, Bool.and_eq_true] at hfl
    obtain ⟨hF1, hF2, hF3⟩ := List.nodup_append.1 hF
    obtain ⟨β1, Fs1, p1, F', r1, z1, _⟩ := place1 hi h1 hF1 (fun b hb => hok b (by simp [hb])) hm1 hn (by simpa using hf 0 (by simp))
    obtain rfl := z1 (flat1_spec hfl.1)
    have r2 : RepL w S ds β1 ys' F2 := RepL.beta ds ys' F2 (by rw [hm2]; simp) h2
    have hnm : ∀ p ∈ (plc1 n d).2, p.1 = n ∧ rootRefs p.2 = [] := by
      intro p hp
      cases d <;> simp [plc1] at hp
      subst hp; exact ⟨rfl, rfl⟩
    obtain ⟨β2, Fs2, p2, r3, r4⟩ := placeL (n := n + 1) p1.inv r2 hF2 (fun b hb => by
      have h5 := hok b (by simp [hb])
      refine ⟨h5.1, h5.2.1, h5.2.2.1, fun r hr => ?_⟩
      rcases p1.foot r b hr with h6 | h6
      · exact h5.2.2.2 r h6
      · exact hF3 b h6 b hb rfl) hm2 hfl.2 (by omega) (fun i hi => by
        rw [show n + 1 + i = n + (i + 1) by omega]
        exact (hf (i + 1) (by simpa using hi)).wrNew fun p hp => ⟨(hnm p hp).2, by rw [(hnm p hp).1]; omega⟩)
    refine ⟨β2, Fs2, ⟨?_, fun r hr => ?_, fun r b hb => ?_⟩, ?_, ?_⟩
    · have := p2.inv
      rw [← upd_append, ← wrNew_append] at this
      exact this
    · have h7 := p2.same r (fun p hp => hr p (by simp [plcL, hp]))
      rw [h7]
      exact p1.same r (fun p hp => hr p (by simp [plcL, hp]))
    · rcases p2.foot r b hb with h8 | h8
      · rcases p1.foot r b h8 with h9 | h9
        · exact .inl h9
        · exact .inr (by simp [h9])
      · exact .inr (by simp [h8])
    · simp only [plcL]
      refine RepL_cons (F1 := []) (F2 := []) h0 (Rep.beta _ _ _ (fun m hmm => ?_) r1) r3
      have : m = n ∨ (plc1 n d).1 = d := by
        cases d <;> first | exact .inr rfl | (simp [plc1, D.men] at hmm; exact .inl hmm)
      refine p2.same m fun p hp => ?_
      have hpn := plcL_names ds (n + 1) p hp
      rcases this with rfl | e
      · omega
      · rw [e, hm1] at hmm; cases hmm
    · intro m hmm
      simp only [plcL, menL, List.mem_append] at hmm
      rcases hmm with hmm | hmm
      · have : m = n ∨ (plc1 n d).1 = d := by
          cases d <;> first | exact .inr rfl | (simp [plc1, D.men] at hmm; exact .inl hmm)
        rcases this with rfl | e
        · simp
        · rw [e, hm1] at hmm; cases hmm
      · have := r4 m hmm
        simp; omega
def width : D → Nat
  | .agg ds => ds.length
  | _ => 1
theorem plcA_names (d : D) (n : Nat) : ∀ p ∈ (plcA n d).2, n ≤ p.1 ∧ p.1 < n + width d ∧ rootRefs p.2 = [] := by
  intro p hp
  cases d <;> simp [plcA, plc1] at hp
  case agg ds => exact plcL_names ds n p hp
  case fr sz k ds => subst hp; exact ⟨Nat.le_refl _, by simp [width], rfl⟩
theorem placeA {g : X} {β : Beta} {Fs : Nat → List Nat} {d : D} {y : Value} {F : List Nat} {n : Nat} (hi : Inv Γ g a w S β Fs) (h : Rep w S d β y F) (hF : F.Nodup) (hok : FOk Γ w S Fs F) (hm : d.men = [])
    (hfl : flatD d = true) (hn : Γ.np ≤ n) (hf : ∀ i, i < width d → FreshName g (n + i)) :
    ∃ β' Fs', Placed Γ g a w S β Fs F [] (plcA n d).2 β' Fs' ∧ Rep w S (plcA n d).1 β' y [] ∧ (∀ m ∈ (plcA n d).1.men, n ≤ m ∧ m < n + width d) := by
  by_cases hag : ∃ ds, d = .agg ds
  · obtain ⟨ds, rfl⟩ := hag
    unfold Rep at h
    obtain ⟨ys, e, h⟩ := h
    obtain ⟨β', Fs', p, r, m⟩ := placeL hi h hF hok (by simpa [D.men] using hm) hfl hn hf
    refine ⟨β', Fs', p, ?_, ?_⟩
    · show Rep w S (.agg (plcL n ds).1) β' y []
      unfold Rep; exact ⟨ys, e, r⟩
    · intro q hq; exact m q (by simpa [plcA, D.men] using hq)
  · have e : plcA n d = plc1 n d := by cases d <;> first | rfl | exact absurd ⟨_, rfl⟩ hag
    have ew : width d = 1 := by cases d <;> first | rfl | exact absurd ⟨_, rfl⟩ hag
    have ef : flatD d = flat1 d := by cases d <;> first | rfl | exact absurd ⟨_, rfl⟩ hag
    rw [ef] at hfl
    rw [ew] at hf
    obtain ⟨β', Fs', p, F', r, z, _⟩ := place1 hi h hF hok hm hn (by simpa using hf 0 (by simp))
    obtain rfl := z (flat1_spec hfl)
    rw [e, ew]
    refine ⟨β', Fs', p, r, fun m hmm => ?_⟩
    have : m = n ∨ (plc1 n d).1 = d := by
      cases d <;> first | exact .inr rfl | (simp [plc1, D.men] at hmm; exact .inl hmm)
    rcases this with rfl | e'
    · omega
    · rw [e', hm] at hmm; cases hmm
theorem plcT_names : ∀ (ds : List D) (n : Nat), (∀ d ∈ ds, width d ≤ 100) → ∀ p ∈ (plcT n ds).2, n ≤ p.1 ∧ p.1 < n + 100 * ds.length ∧ rootRefs p.2 = []
  | [], _, _, p, hp => by simp [plcT] at hp
  | d :: ds, n, hw, p, hp => by
    simp only [plcT, List.mem_append] at hp
    have h1 := hw d (by simp)
    rcases hp with hp | hp
    · have := plcA_names d n p hp
      exact ⟨this.1, by simp; omega, this.2.2⟩
    · have := plcT_names ds (n + 100) (fun d hd => hw d (by simp [hd])) p hp
      exact ⟨by omega, by simp; omega, this.2.2⟩
theorem placeT : ∀ {ds : List D} {g : X} {β : Beta} {Fs : Nat → List Nat} {ys : List Value} {F : List Nat} {n : Nat}, Inv Γ g a w S β Fs → RepT w S ds β ys F → F.Nodup → FOk Γ w S Fs F → menL ds = [] → ds.all flatD = true →
    (∀ d ∈ ds, width d ≤ 100) → Γ.np ≤ n → (∀ i, i < 100 * ds.length → FreshName g (n + i)) →
    ∃ β' Fs', Placed Γ g a w S β Fs F [] (plcT n ds).2 β' Fs' ∧ RepT w S (plcT n ds).1 β' ys [] ∧ (∀ m ∈ menL (plcT n ds).1, n ≤ m ∧ m < n + 100 * ds.length)
  | [], g, β, Fs, ys, F, n, hi, h, _, _, _, _, _, _, _ => by
    unfold RepT at h
    obtain ⟨rfl, rfl⟩ := h
    exact ⟨β, Fs, ⟨hi, fun _ _ => rfl, fun r b hb => .inl hb⟩, by simp [plcT, RepT], by simp [plcT, menL]⟩
  | d :: ds, g, β, Fs, ys, F, n, hi, h, hF, hok, hm, hfl, hw, hn, hf => by
    unfold RepT at h
    obtain ⟨y, ys', F1, F2, rfl, rfl, h1, h2⟩ := h
    obtain ⟨hm1, hm2⟩ := men_nil hm
    simp only [List.all_cons, Bool.and_eq_true] at hfl
    obtain ⟨hF1, hF2, hF3⟩ := List.nodup_append.1 hF
    have hw1 := hw d (by simp)
    obtain ⟨β1, Fs1, p1, r1, m1⟩ := placeA hi h1 hF1 (fun b hb => hok b (by simp [hb])) hm1 hfl.1 hn (fun i hi => hf i (by simp; omega))
    have r2 : RepT w S ds β1 ys' F2 := RepT.beta ds ys' F2 (by rw [hm2]; simp) h2
    obtain ⟨β2, Fs2, p2, r3, r4⟩ := placeT (n := n + 100) p1.inv r2 hF2 (fun b hb => by
      have h5 := hok b (by simp [hb])
      refine ⟨h5.1, h5.2.1, h5.2.2.1, fun r hr => ?_⟩
      rcases p1.foot r b hr with h6 | h6
      · exact h5.2.2.2 r h6
      · exact hF3 b h6 b hb rfl) hm2 hfl.2 (fun d hd => hw d (by simp [hd])) (by omega) (fun i hi => by
        rw [show n + 100 + i = n + (i + 100) by omega]
        exact (hf (i + 100) (by simp; omega)).wrNew fun p hp => ⟨(plcA_names d n p hp).2.2, by have := (plcA_names d n p hp).2.1; omega⟩)
    refine ⟨β2, Fs2, ⟨?_, fun r hr => ?_, fun r b hb => ?_⟩, ?_, ?_⟩
    · have := p2.inv
      rw [← upd_append, ← wrNew_append] at this
      exact this
    · have h7 := p2.same r (fun p hp => hr p (by simp [plcT, hp]))
      rw [h7]
      exact p1.same r (fun p hp => hr p (by simp [plcT, hp]))
    · rcases p2.foot r b hb with h8 | h8
      · rcases p1.foot r b h8 with h9 | h9
        · exact .inl h9
        · exact .inr (by simp [h9])
      · exact .inr (by simp [h8])
    · simp only [plcT]
      unfold RepT
      refine ⟨y, ys', [], [], rfl, rfl, Rep.beta _ _ _ (fun m hmm => ?_) r1, r3⟩
      refine p2.same m fun p hp => ?_
      have hpn := plcT_names ds (n + 100) (fun d hd => hw d (by simp [hd])) p hp
      have := m1 m hmm
      omega
    · intro m hmm
      simp only [plcT, menL, List.mem_append] at hmm
      rcases hmm with hmm | hmm
      · have := m1 m hmm; simp; omega
      · have := r4 m hmm; simp; omega
def widthT : D → Nat
  | .tup ds => 100 * ds.length
  | d => width d
def narrow : D → Bool
  | .tup ds => ds.all fun d => decide (width d ≤ 100)
  | _ => true
theorem place {g : X} {β : Beta} {Fs : Nat → List Nat} {d : D} {y : Value} {F : List Nat} {n : Nat} (hi : Inv Γ g a w S β Fs) (h : Rep w S d β y F) (hF : F.Nodup) (hok : FOk Γ w S Fs F) (hm : d.men = [])
    (hfl : flatT d = true) (hw : narrow d = true) (hn : Γ.np ≤ n) (hf : ∀ i, i < widthT d → FreshName g (n + i)) :
    ∃ β' Fs', Inv Γ (upd g (wrNew (plc n d).2)) a w S β' Fs' ∧ Rep w S (plc n d).1 β' y [] := by
  by_cases ht : ∃ ds, d = .tup ds
  · obtain ⟨ds, rfl⟩ := ht
    unfold Rep at h
    obtain ⟨ys, e, h⟩ := h
    obtain ⟨β', Fs', p, r, m⟩ := placeT hi h hF hok (by simpa [D.men] using hm) hfl (fun d hd => by have := List.all_eq_true.1 hw d hd; simpa using this) hn hf
    refine ⟨β', Fs', p.inv, ?_⟩
    show Rep w S (.tup (plcT n ds).1) β' y []
    unfold Rep; exact ⟨ys, e, r⟩
  · have e : plc n d = plcA n d := by cases d <;> first | rfl | exact absurd ⟨_, rfl⟩ ht
    have ef : flatT d = flatD d := by cases d <;> first | rfl | exact absurd ⟨_, rfl⟩ ht
    have ew : widthT d = width d := by cases d <;> first | rfl | exact absurd ⟨_, rfl⟩ ht
    rw [ef] at hfl
    rw [ew] at hf
    obtain ⟨β', Fs', p, r, _⟩ := placeA hi h hF hok hm hfl hn hf
    rw [e]
    exact ⟨β', Fs', p.inv, r⟩
end
def fnOf : D → Option (FuncId × List D × List D)
  | .fn f caps => some (f, [], caps)
  | .fb f caps => some (f, [], caps)
  | .fm f first => some (f, first, [])
  | .fc f first => some (f, first, [])
  | _ => none
def freshFrom (n k : Nat) : List Nat := List.range' n k
section
variable {P : Program} {o : Oper} {N t : Nat} {st : St}
theorem evAll {Γ : Ctx} {g : X} {a : Act} {w : World} {S : Nat → Prop} {β : Beta} {Fs : Nat → List Nat} (hi : Inv Γ g a w S β Fs) {st : St} : ∀ {l : List Operand}, Needs g (needAll st l) → RepT w S (l.map (evD st)) β (l.map a.eval) []
  | [], _ => by simp [RepT]
  | x :: l, hn => by
    rw [needAll, Needs.append] at hn
    simp only [List.map_cons]
    unfold RepT
    exact ⟨_, _, [], [], rfl, rfl, hi.eval hn.1, evAll hi hn.2⟩
theorem RepT_append_mk {w : World} {S : Nat → Prop} {β : Beta} : ∀ {ds ds' : List D} {ys ys' : List Value}, RepT w S ds β ys [] → RepT w S ds' β ys' [] → RepT w S (ds ++ ds') β (ys ++ ys') []
  | [], _, ys, _, h, h' => by unfold RepT at h; obtain ⟨rfl, _⟩ := h; simpa using h'
  | d :: ds, _, ys, _, h, h' => by
    unfold RepT at h
    obtain ⟨y, ys1, F1, F2, rfl, e, h1, h2⟩ := h
    simp only [List.nil_eq, List.append_eq_nil_iff] at e
    obtain ⟨rfl, rfl⟩ := e
    simp only [List.cons_append]
    unfold RepT
    exact ⟨_, _, [], [], rfl, rfl, h1, RepT_append_mk h2 h'⟩
theorem RepL.toT {w : World} {S : Nat → Prop} {β : Beta} : ∀ {ds : List D} {ys : List Value} {F : List Nat}, RepL w S ds β ys F → RepT w S ds β ys F
  | [], _, _, h => by unfold RepL at h; unfold RepT; exact h
  | d :: ds, _, _, h => by
    unfold RepL at h
    obtain ⟨y, ys', F1, F2, rfl, rfl, _, h1, h2⟩ := h
    unfold RepT
    exact ⟨y, ys', F1, F2, rfl, rfl, h1, h2.toT⟩
def rinNeed (ρ : Nat → Nat) (rin : List (Nat × Root)) : List (Nat × Ent) := rin.map fun p => (2 * ρ p.1 + 1, .r p.2)
theorem rinNeed_spec {g : X} {ρ : Nat → Nat} : ∀ {rin : List (Nat × Root)}, Needs g (rinNeed ρ rin) → ∀ p ∈ rin, g (2 * ρ p.1 + 1) = some (.r p.2) := by
  intro rin h p hp
  exact Needs.mem h (2 * ρ p.1 + 1, .r p.2) (List.mem_map.2 ⟨p, hp, rfl⟩)
def rinB (ρ : Nat → Nat) (rin rout : List (Nat × Root)) : Bool :=
  rin.all (fun p => (rootRefs p.2).all fun q => Nat.beq (ρ q) q) && rout.all (fun p => ((rootRefs p.2).all fun q => Nat.beq (ρ q) q && rin.any (·.1 == q)) && rin.any (·.1 == p.1)) && (rin.map (·.1)).Nodup && (rin.map (fun p => ρ p.1)).Nodup
theorem nodup_inj {α : Type} {f : α → Nat} : ∀ {l : List α}, (l.map f).Nodup → ∀ a ∈ l, ∀ b ∈ l, f a = f b → a = b
  | [], _, a, ha, _, _, _ => by cases ha
  | x :: l, h, a, ha, b, hb, e => by
    simp only [List.map_cons, List.nodup_cons] at h
    rcases List.mem_cons.1 ha with ea | ha <;> rcases List.mem_cons.1 hb with eb | hb
    · rw [ea, eb]
    · exact absurd (List.mem_map.2 ⟨b, hb, by rw [← e, ea]⟩) h.1
    · exact absurd (List.mem_map.2 ⟨a, ha, by rw [e, eb]⟩) h.1
    · exact nodup_inj h.2 a ha b hb e
end
end Go.Gx
namespace Go.Gx
theorem needs_look {st : St} {x : Operand} : Needs (look st) (needOf st x) := by
  cases x with
  | tmp t =>
    simp only [needOf]
    split
    · rename_i d h; exact ⟨h, trivial⟩
    · trivial
  | _ => trivial
theorem needs_all {st : St} : ∀ {l : List Operand}, Needs (look st) (needAll st l)
  | [] => trivial
  | x :: l => by rw [needAll, Needs.append]; exact ⟨needs_look, needs_all⟩
theorem needs_root {st : St} {r : Nat} : Needs (look st) (needRoot st r) := by
  unfold needRoot
  split
  · rename_i x h; exact ⟨h, trivial⟩
  · trivial
theorem needs_roots {st : St} : ∀ {l : List Nat}, Needs (look st) (needRoots st l)
  | [] => trivial
  | r :: l => by rw [needRoots, Needs.append]; exact ⟨needs_root, needs_roots⟩
def delK (k : Nat) : St → St
  | [] => []
  | p :: l => if p.1 = k then delK k l else p :: delK k l
theorem look_delK (k q : Nat) : ∀ (st : St), look (delK k st) q = if q = k then none else look st q
  | [] => by simp [delK, look]
  | p :: l => by
    simp only [delK]
    by_cases h : p.1 = k
    · rw [if_pos h, look_delK k q l]
      by_cases hq : q = k
      · rw [if_pos hq, if_pos hq]
      · rw [if_neg hq, if_neg hq]
        show _ = (if q = p.1 then some p.2 else look l q)
        rw [if_neg (by rw [h]; exact hq)]
    · rw [if_neg h]
      show (if q = p.1 then some p.2 else look (delK k l) q) = if q = k then none else (if q = p.1 then some p.2 else look l q)
      rw [look_delK k q l]
      by_cases hq : q = k
      · subst hq; rw [if_neg (fun e => h e.symm), if_pos rfl, if_pos rfl]
      · rw [if_neg hq, if_neg hq]
def updSt (st : St) : Wr → St
  | [] => st
  | (k, some e) :: r => (k, e) :: updSt st r
  | (k, none) :: r => delK k (updSt st r)
theorem look_updSt (st : St) : ∀ (wr : Wr), look (updSt st wr) = upd (look st) wr
  | [] => rfl
  | (k, some e) :: r => by
    funext q
    show (if q = k then some e else look (updSt st r) q) = if q = k then some e else upd (look st) r q
    rw [look_updSt st r]
  | (k, none) :: r => by
    funext q
    show look (delK k (updSt st r)) q = if q = k then none else upd (look st) r q
    rw [look_delK, look_updSt st r]
def selSt (st : St) : List Nat → Option St
  | [] => some []
  | k :: l => match look st k, selSt st l with
    | some e, some s => some ((k, e) :: s)
    | _, _ => none
theorem selSt_sub {st : St} : ∀ {ks : List Nat} {st' : St}, selSt st ks = some st' → ∀ k e, look st' k = some e → look st k = some e
  | [], st', h, k, e, he => by simp only [selSt, Option.some.injEq] at h; subst h; cases he
  | q :: l, st', h, k, e, he => by
    simp only [selSt] at h
    split at h
    · rename_i e' s h1 h2
      cases h
      have he' : (if k = q then some e' else look s k) = some e := he
      by_cases hk : k = q
      · rw [if_pos hk] at he'; rw [hk, h1, he']
      · rw [if_neg hk] at he'; exact selSt_sub h2 k e he'
    · cases h
def freshB (np : Nat) (st : St) (r : Nat) : Bool := decide (np ≤ r) && st.all fun p => p.1 != 2 * r + 1 && !p.2.names r
theorem look_mem {st : St} {k : Nat} {e : Ent} (h : look st k = some e) : (k, e) ∈ st := by
  induction st with
  | nil => cases h
  | cons p l ih =>
    have h' : (if k = p.1 then some p.2 else look l k) = some e := h
    by_cases hk : k = p.1
    · rw [if_pos hk] at h'; cases h'; subst hk; simp
    · rw [if_neg hk] at h'; exact List.mem_cons_of_mem _ (ih h')
theorem freshB_spec {np : Nat} {st : St} {r : Nat} (h : freshB np st r = true) : np ≤ r ∧ FreshName (look st) r := by
  simp only [freshB, Bool.and_eq_true, decide_eq_true_eq, List.all_eq_true] at h
  refine ⟨h.1, fun k e he => ?_⟩
  have := h.2 _ (look_mem he)
  simpa using this
section
variable {np : Nat} {st st' : St}
theorem imp_sub (h : ∀ k e, look st' k = some e → look st k = some e) : Imp np st st' := fun Γ _ a w hs => by
  obtain ⟨S, β, Fs, hi⟩ := hs
  obtain ⟨Fs', hi'⟩ := hi.weaken h
  exact ⟨S, β, Fs', hi'⟩
theorem imp_sel {ks : List Nat} (h : selSt st ks = some st') : Imp np st st' := imp_sub (selSt_sub h)
def Sub (d d' : D) : Prop := ∀ (w : World) (S : Nat → Prop) (β : Beta) (y : Value) (F : List Nat), Rep w S d β y F → Rep w S d' β y F
def SubL (ds ds' : List D) : Prop := ∀ (w : World) (S : Nat → Prop) (β : Beta) (ys : List Value) (F : List Nat), RepL w S ds β ys F → RepL w S ds' β ys F
theorem Sub.refl (d : D) : Sub d d := fun _ _ _ _ _ h => h
theorem Sub.of_eq {d d' : D} (h : d = d') : Sub d d' := h ▸ Sub.refl d
theorem SubL.of_eq {d d' : List D} (h : d = d') : SubL d d' := by subst h; exact fun _ _ _ _ _ h => h
theorem SubL.nil : SubL [] [] := fun _ _ _ _ _ h => h
theorem SubL.cons {d d' : D} {ds ds' : List D} (h : Sub d d') (h' : SubL ds ds') : SubL (d :: ds) (d' :: ds') := fun w S β ys F hr => by
  unfold RepL at hr ⊢
  obtain ⟨y, ys', F1, F2, e1, e2, h0, h1, h2⟩ := hr
  exact ⟨y, ys', F1, F2, e1, e2, h0, h _ _ _ _ _ h1, h' _ _ _ _ _ h2⟩
theorem Sub.any {d : D} (hd : d.noFr = true) : Sub d .any := fun w S β y F h => by unfold Rep; exact Rep.noF hd h
theorem Sub.agg {ds ds' : List D} (h : SubL ds ds') : Sub (.agg ds) (.agg ds') := fun w S β y F hr => by
  unfold Rep at hr ⊢
  obtain ⟨ys, e, hr⟩ := hr
  exact ⟨ys, e, h _ _ _ _ _ hr⟩
theorem Sub.nil_fr {sz : Nat} : Sub (.v (.slice .none 0 0)) (.fr sz 0 []) := fun w S β y F h => by
  unfold Rep at h ⊢
  obtain ⟨rfl, rfl⟩ := h
  exact ⟨_, _, rfl, by simp, rfl, .inl ⟨rfl, rfl, rfl, rfl⟩⟩
theorem Sub.nil_sl : Sub (.v (.slice .none 0 0)) (.sl 0 0 []) := fun w S β y F h => by
  unfold Rep at h ⊢
  obtain ⟨rfl, rfl⟩ := h
  exact ⟨rfl, rfl, _, _, rfl, Nat.le_refl 0, .inl rfl⟩
theorem imp_conv {k : Nat} {d d' : D} (hk : look st k = some (.d d)) (h : Sub d d') : Imp np st ((k, .d d') :: st) := fun Γ _ a w hs => by
  obtain ⟨S, β, Fs, hi⟩ := hs
  have hodd : ∀ r x, look ((k, Ent.d d') :: st) (2 * r + 1) = some (.r x) → look st (2 * r + 1) = some (.r x) := fun r x hx => by
    have hx' : (if 2 * r + 1 = k then some (Ent.d d') else look st (2 * r + 1)) = some (.r x) := hx
    split at hx'
    · cases hx'
    · exact hx'
  refine ⟨S, β, fun r => if 2 * r + 1 = k then [] else Fs r, { hi with slots := ?_, roots := ?_, noroot := ?_, nodup := ?_, disj := ?_, own := ?_ }⟩
  · intro t e he
    have he' : (if 2 * t = k then some (Ent.d d') else look st (2 * t)) = some (.d e) := he
    split at he'
    · rename_i e1; cases he'; rw [← e1] at hk; exact h _ _ _ _ _ (hi.slots t _ hk)
    · exact hi.slots t _ he'
  · intro r x hx
    have hx1 := hodd r x hx
    have hne : ¬ (2 * r + 1 = k) := fun e => by rw [e, hk] at hx1; cases hx1
    simp only [if_neg hne]
    exact hi.roots r x hx1
  · intro r hr
    by_cases hne : 2 * r + 1 = k
    · simp only [if_pos hne]
    · simp only [if_neg hne]
      exact hi.noroot r fun x hx => hr x (by show (if 2 * r + 1 = k then some (Ent.d d') else look st (2 * r + 1)) = some (.r x); rw [if_neg hne]; exact hx)
  · intro r; split
    · exact List.nodup_nil
    · exact hi.nodup r
  · intro r r' hne b hb hb'
    split at hb
    · cases hb
    · split at hb'
      · cases hb'
      · exact hi.disj r r' hne b hb hb'
  · intro r b hb
    split at hb
    · cases hb
    · exact hi.own r b hb
theorem imp_convR {r sz : Nat} {cells cells' : List D} {refs refs' : List Nat} (hk : look st (2 * r + 1) = some (.r (.arr sz cells refs))) (h : SubL cells cells') (hl : cells = [] → cells' = [])
    (hsub : ∀ m ∈ menL cells', refs.contains m = true ∧ refs'.contains m = true) : Imp np st ((2 * r + 1, .r (.arr sz cells' refs')) :: st) := fun Γ _ a w hs => by
  obtain ⟨S, β, Fs, hi⟩ := hs
  refine ⟨S, β, Fs, { hi with slots := ?_, roots := ?_, noroot := ?_ }⟩
  · intro t e he
    have he' : (if 2 * t = 2 * r + 1 then some (Ent.r _) else look st (2 * t)) = some (.d e) := he
    rw [if_neg (by omega)] at he'
    exact hi.slots t e he'
  · intro q x hx
    have hx' : (if 2 * q + 1 = 2 * r + 1 then some (Ent.r (.arr sz cells' refs')) else look st (2 * q + 1)) = some (.r x) := hx
    by_cases e : q = r
    · subst e
      rw [if_pos rfl] at hx'; cases hx'
      have h1 := hi.roots q _ hk
      cases eb : β q with
      | none => rw [eb] at h1; exact h1.ne.elim
      | nil => rw [eb] at h1; exact ⟨hl h1.1, h1.2⟩
      | blk b o sz' m =>
        rw [eb] at h1
        obtain ⟨e, pre, ys, rest, E, F', k1, k2, k3, k4, k5, k6⟩ := h1
        refine ⟨e, pre, ys, rest, E, F', k1, k2, k3, k4, ?_, fun m hm => (hsub m hm).2⟩
        refine RepL.beta _ _ _ (fun m hm => ?_) (h _ _ _ _ _ k5)
        unfold Beta.res
        rw [if_pos (hsub m hm).1, if_pos (hsub m hm).2]
    · rw [if_neg (by omega)] at hx'
      exact hi.roots q x hx'
  · intro q hq
    by_cases e : q = r
    · subst e
      exact absurd (show look ((2 * q + 1, Ent.r (.arr sz cells' refs')) :: st) (2 * q + 1) = some (.r (.arr sz cells' refs')) by simp [look]) (hq _)
    · exact hi.noroot q fun x hx => hq x (by
        show (if 2 * q + 1 = 2 * r + 1 then some (Ent.r (.arr sz cells' refs')) else look st (2 * q + 1)) = some (.r x)
        rw [if_neg (by omega)]; exact hx)
theorem menL_set_sub {ds : List D} {i : Nat} {d : D} : ∀ m ∈ menL (ds.set i d), m ∈ menL ds ∨ m ∈ d.men := by
  intro m hm
  induction ds generalizing i with
  | nil => simp [menL] at hm
  | cons d' ds ih =>
    cases i with
    | zero =>
      simp only [List.set_cons_zero, menL, List.mem_append] at hm ⊢
      rcases hm with h | h
      · exact .inr h
      · exact .inl (.inr h)
    | succ i =>
      simp only [List.set_cons_succ, menL, List.mem_append] at hm ⊢
      rcases hm with h | h
      · exact .inl (.inl h)
      · rcases ih h with h | h
        · exact .inl (.inr h)
        · exact .inr h
theorem imp_promote {r i q sz sz' n : Nat} {cells ds : List D} {refs : List Nat} (hr : look st (2 * r + 1) = some (.r (.arr sz cells refs))) (hc : cells[i]? = some (.fr sz' n ds)) (hf : freshB np st q = true) :
    Imp np st ((2 * q + 1, .r (.arr sz' ds [])) :: (2 * r + 1, .r (.arr sz (cells.set i (.rs q 0 n)) (q :: refs))) :: st) := fun Γ hnp a w hs => by
  obtain ⟨S, β, Fs, hi⟩ := hs
  obtain ⟨hnq, hfq⟩ := freshB_spec hf
  have hqr : q ≠ r := fun e => (hfq _ _ hr).1 (by rw [e])
  have hroot := hi.roots r _ hr
  have hil : i < cells.length := (List.getElem?_eq_some_iff.1 hc).1
  have hfr := (hfq _ _ hr).2
  simp only [Ent.names] at hfr
  cases eb : β r with
  | none => rw [eb] at hroot; exact hroot.ne.elim
  | nil => rw [eb] at hroot; rw [hroot.1] at hil; simp at hil
  | blk b o szb m =>
    rw [eb] at hroot
    obtain ⟨rfl, pre, ys, rest, E, F', h1, h2, h3, hF, h5, h6⟩ := hroot
    obtain ⟨ya, y, yb, Fa, Fd, Fb, rfl, hya, rfl, h0, hd, ha, hb⟩ := RepL_mid h5 hc
    have hnd := hi.nodup r
    rw [hF] at hnd
    have hsub : ∀ c ∈ Fd, c ∈ Fs r := fun c hc => by rw [hF]; simp [hc]
    have hndd : Fd.Nodup := by
      have := (List.nodup_cons.1 hnd).2
      exact (List.nodup_append.1 (List.nodup_append.1 this).1).2.1
    have hcut : ∀ c ∈ Fd, c ∉ b :: (Fa ++ Fb) := fun c hc hc' => by
      simp only [List.nodup_cons, List.mem_append, List.nodup_append] at hnd
      obtain ⟨n1, ⟨⟨n2, n3, n4⟩, n5, n6⟩⟩ := hnd
      rcases List.mem_cons.1 hc' with rfl | hc'
      · exact n1 (.inl (.inr hc))
      · rcases List.mem_append.1 hc' with h | h
        · exact n4 c h c hc rfl
        · exact n6 c (.inr hc) c h rfl
    obtain ⟨rbq, hxq, hyq⟩ : ∃ rbq, RootRep w S (setB β q rbq) (.arr sz' ds []) rbq Fd ∧ Rep w S (.rs q 0 n) (setB β q rbq) y [] := by
      unfold Rep at hd
      obtain ⟨aa, cap, rfl, hl, hmn, hd⟩ := hd
      rcases hd with ⟨rfl, rfl, rfl, rfl⟩ | ⟨b2, o2, pre2, ys2, rest2, E2, F2, rfl, k1, k2, k3, k4, rfl, k5⟩
      · have : ds = [] := List.eq_nil_of_length_eq_zero (by simpa using hl)
        subst this
        refine ⟨.nil, ⟨rfl, rfl⟩, ?_⟩
        unfold Rep; simp [setB]
      · refine ⟨.blk b2 o2 sz' (pre2 ++ ys2 ++ rest2).length, ⟨rfl, pre2, ys2, rest2, E2, F2, k3, rfl, k4, rfl, by rw [← noB_res]; exact k5, by rw [hmn]; simp⟩, ?_⟩
        unfold Rep
        refine ⟨rfl, ?_⟩
        simp only [setB, if_true]
        exact ⟨cap, by simp, k1, by simpa using k2⟩
    have hbq : ∀ p, p ≠ q → setB β q rbq p = β p := fun p hp => by unfold setB; rw [if_neg hp]
    have hres : ∀ m, refs.contains m = true → ((setB β q rbq).res (q :: refs)) m = (β.res refs) m := fun m hm => by
      have hmq : m ≠ q := fun e => by rw [e, hfr] at hm; cases hm
      unfold Beta.res
      rw [if_pos hm, if_pos (by simp at hm ⊢; exact .inr hm), hbq m hmq]
    refine ⟨S, setB β q rbq, fun p => if p = q then Fd else if p = r then b :: (Fa ++ Fb) else Fs p, {
      defers := hi.defers, size := hi.size, slots := ?_, roots := ?_, noroot := ?_, nodup := ?_, disj := ?_, own := ?_, s0 := hi.s0, sOk := hi.sOk, ext := hi.ext, fix := ?_ }⟩
    · intro t e he
      have he' : (if 2 * t = 2 * q + 1 then some (Ent.r _) else if 2 * t = 2 * r + 1 then some (Ent.r _) else look st (2 * t)) = some (.d e) := he
      rw [if_neg (by omega), if_neg (by omega)] at he'
      exact (hi.slots t e he').setB (by simpa [Ent.names] using (hfq _ _ he').2)
    · intro p x hx
      have hx' : (if 2 * p + 1 = 2 * q + 1 then some (Ent.r (.arr sz' ds [])) else if 2 * p + 1 = 2 * r + 1 then some (Ent.r (.arr szb (cells.set i (.rs q 0 n)) (q :: refs))) else look st (2 * p + 1)) = some (.r x) := hx
      by_cases e : p = q
      · subst e
        rw [if_pos rfl] at hx'; cases hx'
        simp only [if_true]
        have : setB β p rbq p = rbq := by simp [setB]
        rw [this]; exact hxq
      · rw [if_neg (by omega)] at hx'
        simp only [if_neg e]
        by_cases e' : p = r
        · subst e'
          rw [if_pos rfl] at hx'; cases hx'
          simp only [if_true]
          rw [hbq p e, eb]
          refine ⟨rfl, pre, _, rest, E, Fa ++ Fb, h1, h2, h3, rfl, ?_, ?_⟩
          · have ha' : RepL w S (cells.take i) ((setB β q rbq).res (q :: refs)) ya Fa := RepL.beta _ _ _ (fun m hm => hres m (h6 m (menL_take_sub _ _ m hm))) ha
            have hb' : RepL w S (cells.drop (i + 1)) ((setB β q rbq).res (q :: refs)) yb Fb := RepL.beta _ _ _ (fun m hm => hres m (h6 m (menL_drop_sub _ _ m hm))) hb
            have hy' : Rep w S (.rs q 0 n) ((setB β q rbq).res (q :: refs)) y [] := Rep.beta _ _ _ (fun m hm => by simp [D.men] at hm; subst hm; unfold Beta.res; rw [if_pos (by simp)]) hyq
            have := RepL_put hil ha' h0 hy' hb'
            simpa using this
          · intro m hm
            rcases menL_set_sub m hm with h | h
            · have := h6 m h; simp at this ⊢; exact .inr this
            · simp [D.men] at h; subst h; simp
        · rw [if_neg (by omega)] at hx'
          simp only [if_neg e']
          rw [hbq p e]
          exact (hi.roots p x hx').setB (hfq _ _ hx').2
    · intro p hp
      by_cases e : p = q
      · subst e; exact absurd (by simp [look]) (hp (.arr sz' ds []))
      · by_cases e' : p = r
        · subst e'
          exact absurd (by show (if 2 * p + 1 = 2 * q + 1 then _ else if 2 * p + 1 = 2 * p + 1 then some (Ent.r (.arr szb (cells.set i (.rs q 0 n)) (q :: refs))) else look st (2 * p + 1)) = _; rw [if_neg (by omega), if_pos rfl]) (hp (.arr szb (cells.set i (.rs q 0 n)) (q :: refs)))
        · simp only [if_neg e, if_neg e']
          exact hi.noroot p fun x hx => hp x (by
            show (if 2 * p + 1 = 2 * q + 1 then _ else if 2 * p + 1 = 2 * r + 1 then _ else look st (2 * p + 1)) = _
            rw [if_neg (by omega), if_neg (by omega)]; exact hx)
    · intro p
      split
      · exact hndd
      · split
        · refine List.Nodup.sublist ?_ hnd
          exact List.Sublist.cons_cons b (by rw [List.append_assoc]; exact List.Sublist.append (List.Sublist.refl _) (List.sublist_append_right _ _))
        · exact hi.nodup p
    · have hR : ∀ c ∈ b :: (Fa ++ Fb), c ∈ Fs r := fun c hc => by rw [hF]; simp at hc ⊢; rcases hc with h | h | h <;> simp [h]
      intro p p' hne c hc hc'
      by_cases e : p = q
      · simp only [if_pos e] at hc
        have e' : p' ≠ q := fun h => hne (e.trans h.symm)
        simp only [if_neg e'] at hc'
        by_cases e2 : p' = r
        · simp only [if_pos e2] at hc'
          exact hcut c hc hc'
        · simp only [if_neg e2] at hc'
          exact hi.disj r p' (Ne.symm e2) c (hsub c hc) hc'
      · simp only [if_neg e] at hc
        by_cases e1 : p = r
        · simp only [if_pos e1] at hc
          by_cases e' : p' = q
          · simp only [if_pos e'] at hc'
            exact hcut c hc' hc
          · simp only [if_neg e'] at hc'
            have e2 : p' ≠ r := fun h => hne (e1.trans h.symm)
            simp only [if_neg e2] at hc'
            exact hi.disj r p' (Ne.symm e2) c (hR c hc) hc'
        · simp only [if_neg e1] at hc
          by_cases e' : p' = q
          · simp only [if_pos e'] at hc'
            exact hi.disj p r e1 c hc (hsub c hc')
          · simp only [if_neg e'] at hc'
            by_cases e2 : p' = r
            · simp only [if_pos e2] at hc'
              exact hi.disj p r e1 c hc (hR c hc')
            · simp only [if_neg e2] at hc'
              exact hi.disj p p' hne c hc hc'
    · intro p c hc
      by_cases e : p = q
      · simp only [if_pos e] at hc; exact hi.own r c (hsub c hc)
      · simp only [if_neg e] at hc
        by_cases e' : p = r
        · simp only [if_pos e'] at hc
          exact hi.own r c (by rw [hF]; simp at hc ⊢; rcases hc with h | h | h <;> simp [h])
        · simp only [if_neg e'] at hc; exact hi.own p c hc
    · intro p hp
      rw [hbq p (by omega)]
      exact hi.fix p hp
end
end Go.Gx
namespace Go.Gx
theorem mem_menL {d : D} {m : Nat} : ∀ {ds : List D}, d ∈ ds → m ∈ d.men → m ∈ menL ds
  | d' :: ds, h, hm => by
    simp only [menL, List.mem_append]
    rcases List.mem_cons.1 h with rfl | h
    · exact .inl hm
    · exact .inr (mem_menL h hm)
section
variable {np : Nat} {st st' : St}
theorem imp_demote {r i q sz sz' n : Nat} {cells ds : List D} {refs refs' : List Nat} (hr : look st (2 * r + 1) = some (.r (.arr sz cells refs))) (hq : look st (2 * q + 1) = some (.r (.arr sz' ds []))) (hne : r ≠ q)
    (hc : cells[i]? = some (.rs q 0 n)) (hl : ds.length = n * sz') (hsub : ∀ m ∈ menL (cells.set i (.fr sz' n ds)), refs.contains m = true ∧ refs'.contains m = true) :
    Imp np st (updSt st [(2 * r + 1, some (.r (.arr sz (cells.set i (.fr sz' n ds)) refs'))), (2 * q + 1, none)]) := fun Γ hnp a w hs => by
  obtain ⟨S, β, Fs, hi⟩ := hs
  unfold Sat
  rw [look_updSt]
  have hroot := hi.roots r _ hr
  have hrootq := hi.roots q _ hq
  have hil : i < cells.length := (List.getElem?_eq_some_iff.1 hc).1
  cases eb : β r with
  | none => rw [eb] at hroot; exact hroot.ne.elim
  | nil => rw [eb] at hroot; rw [hroot.1] at hil; simp at hil
  | blk b o szb m =>
    rw [eb] at hroot
    obtain ⟨rfl, pre, ys, rest, E, F', h1, h2, h3, hF, h5, h6⟩ := hroot
    obtain ⟨ya, y, yb, Fa, Fd, Fb, rfl, hya, rfl, h0, hd, ha, hb⟩ := RepL_mid h5 hc
    have hFd : Fd = [] := by unfold Rep at hd; exact hd.1
    subst hFd
    have hqref : refs.contains q = true := h6 q (mem_menL (List.mem_of_getElem? hc) (by simp [D.men]))
    have hyq : Rep w S (.fr sz' n ds) (β.res refs') y (Fs q) := by
      unfold Rep at hd ⊢
      have hd2 := hd.2
      unfold Beta.res at hd2
      rw [if_pos hqref] at hd2
      cases ebq : β q with
      | none => rw [ebq] at hrootq; exact hrootq.ne.elim
      | nil =>
        rw [ebq] at hd2 hrootq
        obtain ⟨rfl, _, rfl⟩ := hd2
        obtain ⟨rfl, hFq⟩ := hrootq
        exact ⟨_, _, rfl, by simp, rfl, .inl ⟨rfl, rfl, rfl, hFq⟩⟩
      | blk b2 o2 sz2 m2 =>
        rw [ebq] at hd2 hrootq
        obtain ⟨cap, rfl, k1, k2⟩ := hd2
        obtain ⟨rfl, pre2, ys2, rest2, E2, F2, g1, g2, g3, g4, g5, g6⟩ := hrootq
        refine ⟨_, _, rfl, hl, ?_, .inr ⟨b2, o2, pre2, ys2, rest2, E2, F2, by simp, k1, by rw [← g2]; simpa using k2, g1, g3, g4, by rw [noB_res (β := β)]; exact g5⟩⟩
        cases hm : menL ds with
        | nil => rfl
        | cons m l => have := g6 m (by rw [hm]; simp); simp at this
    have hresE : ∀ m ∈ menL (cells.set i (.fr sz' n ds)), (β.res refs') m = (β.res refs) m := fun m hm => by
      unfold Beta.res; rw [if_pos (hsub m hm).1, if_pos (hsub m hm).2]
    have eset : cells.set i (.fr sz' n ds) = cells.take i ++ D.fr sz' n ds :: cells.drop (i + 1) := by rw [List.set_eq_take_append_cons_drop, if_pos hil]
    have hmt : ∀ m ∈ menL (cells.take i), m ∈ menL (cells.set i (.fr sz' n ds)) := fun m hm => by rw [eset, menL_append]; simp [hm]
    have hmd : ∀ m ∈ menL (cells.drop (i + 1)), m ∈ menL (cells.set i (.fr sz' n ds)) := fun m hm => by rw [eset, menL_append]; simp [menL, hm]
    have hnd := hi.nodup r
    rw [hF] at hnd
    have hsubr : ∀ c ∈ b :: (Fa ++ [] ++ Fb), c ∈ Fs r := fun c hc => by rw [hF]; exact hc
    have hcross : ∀ c ∈ Fs q, c ∉ b :: (Fa ++ [] ++ Fb) := fun c hc hc' => hi.disj q r (Ne.symm hne) c hc (hsubr c hc')
    have hupd : ∀ k, upd (look st) [(2 * r + 1, some (Ent.r (.arr szb (cells.set i (.fr sz' n ds)) refs'))), (2 * q + 1, none)] k = if k = 2 * r + 1 then some (Ent.r (.arr szb (cells.set i (.fr sz' n ds)) refs')) else if k = 2 * q + 1 then none else look st k := fun k => rfl
    refine ⟨S, β, fun p => if p = r then b :: (Fa ++ Fs q ++ Fb) else if p = q then [] else Fs p, {
      defers := hi.defers, size := hi.size, slots := ?_, roots := ?_, noroot := ?_, nodup := ?_, disj := ?_, own := ?_, s0 := hi.s0, sOk := hi.sOk, ext := hi.ext, fix := hi.fix }⟩
    · intro t e he
      rw [hupd, if_neg (by omega), if_neg (by omega)] at he
      exact hi.slots t e he
    · intro p x hx
      rw [hupd] at hx
      by_cases e : p = r
      · subst e
        rw [if_pos rfl] at hx; cases hx
        simp only [if_true]
        rw [eb]
        refine ⟨rfl, pre, _, rest, E, Fa ++ Fs q ++ Fb, h1, h2, h3, rfl, ?_, fun m hm => (hsub m hm).2⟩
        exact RepL_put hil (RepL.beta _ _ _ (fun m hm => hresE m (hmt m hm)) ha) h0 hyq (RepL.beta _ _ _ (fun m hm => hresE m (hmd m hm)) hb)
      · rw [if_neg (by omega)] at hx
        by_cases e' : p = q
        · subst e'; rw [if_pos rfl] at hx; cases hx
        · rw [if_neg (by omega)] at hx
          simp only [if_neg e, if_neg e']
          exact hi.roots p x hx
    · intro p hp
      by_cases e : p = r
      · subst e; exact absurd (by rw [hupd, if_pos rfl]) (hp (.arr szb (cells.set i (.fr sz' n ds)) refs'))
      · simp only [if_neg e]
        by_cases e' : p = q
        · simp only [if_pos e']
        · simp only [if_neg e']
          exact hi.noroot p fun x hx => hp x (by rw [hupd, if_neg (by omega), if_neg (by omega)]; exact hx)
    · intro p
      split
      · have hpm : (b :: (Fa ++ Fs q ++ Fb)).Perm (Fs q ++ b :: (Fa ++ [] ++ Fb)) := by
          rw [List.append_nil, List.append_assoc]
          have : (Fs q ++ b :: (Fa ++ Fb)).Perm (b :: (Fs q ++ (Fa ++ Fb))) := List.perm_middle
          refine List.Perm.trans ?_ this.symm
          refine List.Perm.cons b ?_
          rw [← List.append_assoc, ← List.append_assoc]
          exact List.Perm.append_right _ List.perm_append_comm
        refine hpm.nodup_iff.2 (List.nodup_append.2 ⟨hi.nodup q, hnd, fun c hc c' hc' e => ?_⟩)
        subst e; exact hcross c hc hc'
      · split
        · exact List.nodup_nil
        · exact hi.nodup p
    · have hR : ∀ c ∈ b :: (Fa ++ Fs q ++ Fb), c ∈ Fs r ∨ c ∈ Fs q := fun c hc => by rw [hF]; simp at hc ⊢; rcases hc with h | h | h | h <;> simp [h]
      intro p p' hpp c hc hc'
      by_cases e : p = r
      · simp only [if_pos e] at hc
        have e' : p' ≠ r := fun h => hpp (e.trans h.symm)
        simp only [if_neg e'] at hc'
        split at hc'
        · cases hc'
        · rename_i e2
          rcases hR c hc with h | h
          · exact hi.disj r p' (Ne.symm e') c h hc'
          · exact hi.disj q p' (Ne.symm e2) c h hc'
      · simp only [if_neg e] at hc
        split at hc
        · cases hc
        · rename_i e1
          by_cases e' : p' = r
          · simp only [if_pos e'] at hc'
            rcases hR c hc' with h | h
            · exact hi.disj p r e c hc h
            · exact hi.disj p q e1 c hc h
          · simp only [if_neg e'] at hc'
            split at hc'
            · cases hc'
            · exact hi.disj p p' hpp c hc hc'
    · intro p c hc
      by_cases e : p = r
      · simp only [if_pos e] at hc
        have : c ∈ Fs r ∨ c ∈ Fs q := by rw [hF]; simp at hc ⊢; rcases hc with h | h | h | h <;> simp [h]
        rcases this with h | h
        · exact hi.own r c h
        · exact hi.own q c h
      · simp only [if_neg e] at hc
        split at hc
        · cases hc
        · exact hi.own p c hc
mutual
def D.ren (f : Nat → Nat) : D → D
  | .agg ds => .agg (renL f ds)
  | .tup ds => .tup (renL f ds)
  | .rs r off n => .rs (f r) off n
  | .rp r off => .rp (f r) off
  | .rm r => .rm (f r)
  | .fn g caps => .fn g (renL f caps)
  | .fm g caps => .fm g (renL f caps)
  | .ifc t d => .ifc t (d.ren f)
  | d => d
def renL (f : Nat → Nat) : List D → List D
  | [] => []
  | d :: ds => d.ren f :: renL f ds
end
mutual
theorem Rep.ren {w : World} {S : Nat → Prop} {β β' : Beta} {f : Nat → Nat} : ∀ (d : D) (y : Value) (F : List Nat), (∀ m ∈ d.men, β' (f m) = β m) → Rep w S d β y F → Rep w S (d.ren f) β' y F
  | .any, _, _, _, h => by unfold D.ren; unfold Rep at *; exact h
  | .v x, _, _, _, h => by unfold D.ren; unfold Rep at *; exact h
  | .agg ds, y, F, hm, h => by
    unfold D.ren; unfold Rep at *; obtain ⟨ys, e, h⟩ := h; exact ⟨ys, e, RepL.ren ds ys F (by unfold D.men at hm; exact hm) h⟩
  | .tup ds, y, F, hm, h => by
    unfold D.ren; unfold Rep at *; obtain ⟨ys, e, h⟩ := h; exact ⟨ys, e, RepT.ren ds ys F (by unfold D.men at hm; exact hm) h⟩
  | .sl n off ds, y, F, hm, h => by unfold D.ren; unfold Rep at *; exact h
  | .pt ds off, y, F, hm, h => by unfold D.ren; unfold Rep at *; exact h
  | .fr sz n ds, y, F, hm, h => by unfold D.ren; unfold Rep at *; exact h
  | .rs r off n, y, F, hm, h => by unfold D.ren; unfold Rep at *; rw [hm r (by simp [D.men])]; exact h
  | .rp r off, y, F, hm, h => by unfold D.ren; unfold Rep at *; rw [hm r (by simp [D.men])]; exact h
  | .fn g caps, y, F, hm, h => by
    unfold D.ren; unfold Rep at *; obtain ⟨ys, e, h⟩ := h; exact ⟨ys, e, RepL.ren caps ys F (by unfold D.men at hm; exact hm) h⟩
  | .ifc t d, y, F, hm, h => by
    unfold D.ren; unfold Rep at *; obtain ⟨x, e, h⟩ := h; exact ⟨x, e, Rep.ren d x F (by unfold D.men at hm; exact hm) h⟩
  | .rm r, y, F, hm, h => by unfold D.ren; unfold Rep at *; rw [hm r (by simp [D.men])]; exact h
  | .bm es, y, F, hm, h => by unfold D.ren; unfold Rep at *; exact h
  | .fb f caps, y, F, hm, h => by unfold D.ren; unfold Rep at *; exact h
  | .fm g caps, y, F, hm, h => by
    unfold D.ren; unfold Rep at *; obtain ⟨ys, e, h⟩ := h; exact ⟨ys, e, RepL.ren caps ys F (by unfold D.men at hm; exact hm) h⟩
  | .fc f caps, y, F, hm, h => by unfold D.ren; unfold Rep at *; exact h
theorem RepL.ren {w : World} {S : Nat → Prop} {β β' : Beta} {f : Nat → Nat} : ∀ (ds : List D) (ys : List Value) (F : List Nat), (∀ m ∈ menL ds, β' (f m) = β m) → RepL w S ds β ys F → RepL w S (renL f ds) β' ys F
  | [], _, _, _, h => by unfold renL; unfold RepL at *; exact h
  | d :: ds, ys, F, hm, h => by
    unfold renL; unfold RepL at *
    obtain ⟨y, ys', F1, F2, e1, e2, h0, h1, h2⟩ := h
    unfold menL at hm
    exact ⟨y, ys', F1, F2, e1, e2, h0, Rep.ren d y F1 (fun r hr => hm r (by simp [hr])) h1, RepL.ren ds ys' F2 (fun r hr => hm r (by simp [hr])) h2⟩
theorem RepT.ren {w : World} {S : Nat → Prop} {β β' : Beta} {f : Nat → Nat} : ∀ (ds : List D) (ys : List Value) (F : List Nat), (∀ m ∈ menL ds, β' (f m) = β m) → RepT w S ds β ys F → RepT w S (renL f ds) β' ys F
  | [], _, _, _, h => by unfold renL; unfold RepT at *; exact h
  | d :: ds, ys, F, hm, h => by
    unfold renL; unfold RepT at *
    obtain ⟨y, ys', F1, F2, e1, e2, h1, h2⟩ := h
    unfold menL at hm
    exact ⟨y, ys', F1, F2, e1, e2, Rep.ren d y F1 (fun r hr => hm r (by simp [hr])) h1, RepT.ren ds ys' F2 (fun r hr => hm r (by simp [hr])) h2⟩
end
mutual
theorem D.men_ren (f : Nat → Nat) : ∀ d : D, (d.ren f).men = d.men.map f
  | .any | .v _ | .sl _ _ _ | .pt _ _ | .fr _ _ _ | .bm _ | .fb _ _ | .fc _ _ => by simp [D.ren, D.men]
  | .agg ds | .tup ds | .fn _ ds | .fm _ ds => by simp [D.ren, D.men, menL_ren f ds]
  | .rs _ _ _ | .rp _ _ | .rm _ => by simp [D.ren, D.men]
  | .ifc _ d => by simp [D.ren, D.men, D.men_ren f d]
theorem menL_ren (f : Nat → Nat) : ∀ ds : List D, menL (renL f ds) = (menL ds).map f
  | [] => by simp [renL, menL]
  | d :: ds => by simp [renL, menL, D.men_ren f d, menL_ren f ds]
end
def swapN (r q : Nat) (m : Nat) : Nat := if m = r then q else m
def renE (r q : Nat) : Ent → Ent
  | .d x => .d (x.ren (swapN r q))
  | .r (.arr sz cells refs) => if refs.contains r then .r (.arr sz (renL (swapN r q) cells) (refs.map (swapN r q))) else .r (.arr sz cells refs)
  | .r (.mp es) => .r (.mp es)
def renSt (r q : Nat) : St → St
  | [] => []
  | p :: l => ((if p.1 = 2 * r + 1 then 2 * q + 1 else p.1), renE r q p.2) :: renSt r q l
theorem look_renSt {r q : Nat} : ∀ {st : St}, (∀ p ∈ st, p.1 ≠ 2 * q + 1) → ∀ k, look (renSt r q st) k = if k = 2 * q + 1 then (look st (2 * r + 1)).map (renE r q) else if k = 2 * r + 1 then none else (look st k).map (renE r q)
  | [], _, k => by simp [renSt, look]
  | p :: l, h, k => by
    have hp := h p (by simp)
    have ih := look_renSt (r := r) (q := q) (st := l) (fun p hp => h p (by simp [hp])) k
    show (if k = (if p.1 = 2 * r + 1 then 2 * q + 1 else p.1) then some (renE r q p.2) else look (renSt r q l) k) = _
    rw [ih]
    show _ = if k = 2 * q + 1 then (if 2 * r + 1 = p.1 then some p.2 else look l (2 * r + 1)).map (renE r q) else if k = 2 * r + 1 then none else (if k = p.1 then some p.2 else look l k).map (renE r q)
    by_cases e1 : p.1 = 2 * r + 1
    · rw [if_pos e1]
      by_cases e2 : k = 2 * q + 1
      · rw [if_pos e2, if_pos e2, if_pos e1.symm]; rfl
      · rw [if_neg e2, if_neg e2, if_neg e2]
        by_cases e3 : k = 2 * r + 1
        · rw [if_pos e3, if_pos e3]
        · rw [if_neg e3, if_neg e3, if_neg (by rw [e1]; exact e3)]
    · rw [if_neg e1]
      by_cases e2 : k = 2 * q + 1
      · rw [if_neg (by rw [e2]; exact fun e => hp e.symm), if_pos e2, if_pos e2, if_neg (fun e => e1 e.symm)]
      · rw [if_neg e2, if_neg e2]
        by_cases e3 : k = 2 * r + 1
        · rw [if_pos e3, if_pos e3, if_neg (by rw [e3]; exact fun e => e1 e.symm)]
        · rw [if_neg e3, if_neg e3]
          by_cases e4 : k = p.1
          · rw [if_pos e4, if_pos e4]; rfl
          · rw [if_neg e4, if_neg e4]
theorem imp_rename {r q : Nat} (hf : freshB np st q = true) (hr : np ≤ r) : Imp np st (renSt r q st) := fun Γ hnp a w hs => by
  obtain ⟨S, β, Fs, hi⟩ := hs
  obtain ⟨hnq, hfq⟩ := freshB_spec hf
  have hk : ∀ p ∈ st, p.1 ≠ 2 * q + 1 := fun p hp => by
    simp only [freshB, Bool.and_eq_true, List.all_eq_true] at hf
    have := (hf.2 p hp).1
    simpa using this
  by_cases hqr : q = r
  · subst hqr
    have : ∀ k e, look (renSt q q st) k = some e → look st k = some e := by
      intro k e he
      rw [look_renSt hk] at he
      by_cases e1 : k = 2 * q + 1
      · rw [if_pos e1] at he
        cases h : look st (2 * q + 1) with
        | none => rw [h] at he; cases he
        | some e => exact absurd rfl (hfq _ _ h).1
      · rw [if_neg e1, if_neg e1] at he
        cases h : look st k with
        | none => rw [h] at he; cases he
        | some x =>
          rw [h] at he
          have hid : swapN q q = id := by funext m; unfold swapN; split <;> simp_all
          have hrd : ∀ d : D, d.ren id = d := by
            intro d
            refine D.rec (motive_1 := fun d => d.ren id = d) (motive_2 := fun ds => renL id ds = ds) ?_ ?_ ?_ ?_ ?_ ?_ ?_ ?_ ?_ ?_ ?_ ?_ ?_ ?_ ?_ ?_ ?_ ?_ d <;> intros <;> simp_all [D.ren, renL]
          have : renE q q x = x := by
            have hn := (hfq _ _ h).2
            cases x with
            | d x => simp [renE, hid, hrd]
            | r x => cases x with
              | arr sz cells refs => simp only [Ent.names] at hn; simp only [renE, hn, Bool.false_eq_true, if_false]
              | mp es => rfl
          simp [this] at he; rw [he]
    obtain ⟨Fs', hi'⟩ := hi.weaken this
    exact ⟨S, β, Fs', hi'⟩
  have hlk := look_renSt (r := r) (q := q) hk
  have hsw : ∀ m, m ≠ q → setB β q (β r) (swapN r q m) = β m := fun m hm => by
    unfold swapN setB
    by_cases e : m = r
    · rw [if_pos e, if_pos rfl, e]
    · rw [if_neg e, if_neg hm]
  have hbq : ∀ p, p ≠ q → setB β q (β r) p = β p := fun p hp => by unfold setB; rw [if_neg hp]
  have hroot : ∀ x rb F k, look st k = some (.r x) → RootRep w S β x rb F → ∀ x', renE r q (.r x) = .r x' → RootRep w S (setB β q (β r)) x' rb F := by
    intro x rb F k hx h x' he
    have hn := (hfq _ _ hx).2
    cases x with
    | mp es => simp [renE] at he; subst he; cases rb <;> exact h
    | arr sz cells refs =>
      simp only [Ent.names] at hn
      simp only [renE] at he
      split at he
      · rename_i hc
        cases he
        cases rb with
        | none => exact h.ne.elim
        | nil => obtain ⟨rfl, e⟩ := h; exact ⟨by simp [renL], e⟩
        | blk b o sz' m =>
          obtain ⟨e, pre, ys, rest, E, F', k1, k2, k3, k4, k5, k6⟩ := h
          refine ⟨e, pre, ys, rest, E, F', k1, k2, k3, k4, RepL.ren _ _ _ (fun m hm => ?_) k5, fun m hm => ?_⟩
          · have hmr := k6 m hm
            have hmq : m ≠ q := fun e => by rw [e, hn] at hmr; cases hmr
            unfold Beta.res
            rw [if_pos hmr, if_pos (by simp only [List.contains_iff_mem, List.mem_map] at hmr ⊢; exact ⟨m, hmr, rfl⟩)]
            exact hsw m hmq
          · rw [menL_ren] at hm
            obtain ⟨m', hm', rfl⟩ := List.mem_map.1 hm
            have := k6 m' hm'
            simp only [List.contains_iff_mem, List.mem_map] at this ⊢
            exact ⟨m', this, rfl⟩
      · cases he
        exact h.setB (by simpa [Ent.names] using hn)
  refine ⟨S, setB β q (β r), fun p => if p = q then Fs r else if p = r then [] else Fs p, {
    defers := hi.defers, size := hi.size, slots := ?_, roots := ?_, noroot := ?_, nodup := ?_, disj := ?_, own := ?_, s0 := hi.s0, sOk := hi.sOk, ext := hi.ext, fix := ?_ }⟩
  · intro t e he
    rw [hlk, if_neg (by omega), if_neg (by omega)] at he
    cases h : look st (2 * t) with
    | none => rw [h] at he; cases he
    | some x =>
      rw [h] at he
      cases x with
      | r x => cases x with
        | mp es => simp [renE] at he
        | arr sz cells refs =>
          simp only [Option.map_some, renE] at he
          split at he <;> cases he
      | d x =>
        simp [renE] at he; subst he
        refine Rep.ren x _ _ (fun m hm => hsw m ?_) (hi.slots t x h)
        have := (hfq _ _ h).2
        simp only [Ent.names] at this
        rintro rfl
        simp at this; exact this hm
  · intro p x hx
    rw [hlk] at hx
    by_cases e : p = q
    · subst e
      rw [if_pos rfl] at hx
      simp only [if_true]
      have : setB β p (β r) p = β r := by simp [setB]
      rw [this]
      cases h : look st (2 * r + 1) with
      | none => rw [h] at hx; cases hx
      | some e => cases e with
        | d d => rw [h] at hx; simp [renE] at hx
        | r x0 =>
          rw [h] at hx
          simp only [Option.map_some, Option.some.injEq] at hx
          exact hroot x0 _ _ _ h (hi.roots r x0 h) x hx
    · rw [if_neg (by omega)] at hx
      by_cases e' : p = r
      · subst e'; rw [if_pos rfl] at hx; cases hx
      · rw [if_neg (by omega)] at hx
        simp only [if_neg e, if_neg e']
        rw [hbq p e]
        cases h : look st (2 * p + 1) with
        | none => rw [h] at hx; cases hx
        | some e => cases e with
          | d d => rw [h] at hx; simp [renE] at hx
          | r x0 =>
            rw [h] at hx
            simp only [Option.map_some, Option.some.injEq] at hx
            exact hroot x0 _ _ _ h (hi.roots p x0 h) x hx
  · have hnr : ∀ p k, k = 2 * p + 1 → (∀ x, look (renSt r q st) k ≠ some (.r x)) → look (renSt r q st) k = (look st (2 * (if p = q then r else p) + 1)).map (renE r q) → Fs (if p = q then r else p) = [] := by
      intro p k _ h1 h2
      refine hi.noroot _ fun x hx => ?_
      rw [hx] at h2
      cases hx' : renE r q (.r x) with
      | d d => cases x with
        | mp es => simp [renE] at hx'
        | arr sz cells refs => simp only [renE] at hx'; split at hx' <;> cases hx'
      | r x' => rw [Option.map_some, hx'] at h2; exact h1 x' h2
    intro p hp
    by_cases e : p = q
    · simp only [if_pos e]
      have := hnr p _ rfl hp (by rw [hlk, if_pos (by rw [e]), if_pos e])
      rwa [if_pos e] at this
    · simp only [if_neg e]
      by_cases e' : p = r
      · simp only [if_pos e']
      · simp only [if_neg e']
        have := hnr p _ rfl hp (by rw [hlk, if_neg (by omega), if_neg (by omega), if_neg e])
        rwa [if_neg e] at this
  · intro p; split
    · exact hi.nodup r
    · split
      · exact List.nodup_nil
      · exact hi.nodup p
  · intro p p' hne c hc hc'
    by_cases e : p = q
    · simp only [if_pos e] at hc
      have e' : p' ≠ q := fun h => hne (e.trans h.symm)
      simp only [if_neg e'] at hc'
      split at hc'
      · cases hc'
      · rename_i e2; exact hi.disj r p' (Ne.symm e2) c hc hc'
    · simp only [if_neg e] at hc
      split at hc
      · cases hc
      · rename_i e1
        by_cases e' : p' = q
        · simp only [if_pos e'] at hc'
          exact hi.disj p r e1 c hc hc'
        · simp only [if_neg e'] at hc'
          split at hc'
          · cases hc'
          · exact hi.disj p p' hne c hc hc'
  · intro p c hc
    by_cases e : p = q
    · simp only [if_pos e] at hc; exact hi.own r c hc
    · simp only [if_neg e] at hc
      split at hc
      · cases hc
      · exact hi.own p c hc
  · intro p hp
    rw [hbq p (by omega)]
    exact hi.fix p hp
end
end Go.Gx
namespace Go.Gx
def lent (Fs : Nat → List Nat) (B : List Nat) : Nat → Prop := fun b => ∃ r ∈ B, b ∈ Fs r
def SB (S : Nat → Prop) (Fs : Nat → List Nat) (B : List Nat) : Nat → Prop := fun b => S b ∨ lent Fs B b
def Bor1 (st : St) (B : List Nat) (d d' : D) : Prop := d'.men = [] ∧ ∀ Γ g a w S β Fs, Inv Γ g a w S β Fs → Needs g (needRoots st B) → ∀ y F, Rep w S d β y F → (∀ b ∈ F, lent Fs B b) → Rep w (SB S Fs B) d' noB y []
def BorC (st : St) (B : List Nat) (ds ds' : List D) : Prop := menL ds' = [] ∧ ds'.length = ds.length ∧ ∀ Γ g a w S β Fs, Inv Γ g a w S β Fs → Needs g (needRoots st B) → ∀ ys F, RepL w S ds β ys F → (∀ b ∈ F, lent Fs B b) → RepL w (SB S Fs B) ds' noB ys []
def Bor (st : St) (B : List Nat) (ρ : Nat → Nat) (d d' : D) : Prop := ∀ Γ g a w S β Fs, Inv Γ g a w S β Fs → Needs g (needRoots st B) → ∀ y, Rep w S d β y [] → Rep w (SB S Fs B) d' (fun i => β (ρ i)) y []
def BorL (st : St) (B : List Nat) (ρ : Nat → Nat) (ds ds' : List D) : Prop := ∀ Γ g a w S β Fs, Inv Γ g a w S β Fs → Needs g (needRoots st B) → ∀ ys, RepT w S ds β ys [] → RepT w (SB S Fs B) ds' (fun i => β (ρ i)) ys []
section
variable {st : St} {B : List Nat} {ρ : Nat → Nat}
theorem inSB {S : Nat → Prop} {Fs : Nat → List Nat} : ∀ b, S b → SB S Fs B b := fun _ h => .inl h
theorem Rep.inS {w : World} {S : Nat → Prop} {β : Beta} {Fs : Nat → List Nat} {d : D} {y : Value} {F : List Nat} (h : Rep w S d β y F) : Rep w (SB S Fs B) d β y F :=
  Rep.mono (fun _ _ => rfl) inSB d β y F (fun _ _ => rfl) h
theorem Bor1.same {d : D} (hm : d.men = []) (hf : d.noFr = true) : Bor1 st B d d := ⟨hm, fun Γ g a w S β Fs hi hn y F h _ => by
  have e := Rep.noF hf h
  subst e
  exact (Rep.beta d y [] (by rw [hm]; simp) h).inS⟩
theorem Bor1.v {x : Value} : Bor1 st B (.v x) (.v x) := .same rfl rfl
theorem Bor1.nil : Bor1 st B (.v (.slice .none 0 0)) (.sl 0 0 []) := ⟨rfl, fun Γ g a w S β Fs hi hn y F h _ => by
  unfold Rep at h ⊢
  obtain ⟨rfl, rfl⟩ := h
  exact ⟨rfl, rfl, _, _, rfl, Nat.le_refl 0, .inl rfl⟩⟩
theorem BorC.nil : BorC st B [] [] := ⟨rfl, rfl, fun Γ g a w S β Fs hi hn ys F h _ => by unfold RepL at h; rw [h.1]; exact RepL_nil⟩
theorem BorC.cons {d d' : D} {ds ds' : List D} (h : Bor1 st B d d') (h' : BorC st B ds ds') : BorC st B (d :: ds) (d' :: ds') :=
  ⟨by simp [menL, h.1, h'.1], by simp [h'.2.1], fun Γ g a w S β Fs hi hn ys F hr hF => by
    unfold RepL at hr
    obtain ⟨y, ys', F1, F2, rfl, rfl, h0, h1, h2⟩ := hr
    have := RepL_cons h0 (h.2 Γ g a w S β Fs hi hn _ _ h1 fun b hb => hF b (by simp [hb])) (h'.2.2 Γ g a w S β Fs hi hn _ _ h2 fun b hb => hF b (by simp [hb]))
    exact this⟩
theorem BorC.append {a a' b b' : List D} (h : BorC st B a a') (h' : BorC st B b b') : BorC st B (a ++ b) (a' ++ b') :=
  ⟨by rw [menL_append, h.1, h'.1]; rfl, by simp [h.2.1, h'.2.1], fun Γ g ac w S β Fs hi hn ys F hr hF => by
    obtain ⟨y1, y2, F1, F2, rfl, rfl, h1, h2⟩ := RepL_append hr
    have := RepL_append_mk (h.2.2 Γ g ac w S β Fs hi hn _ _ h1 fun b hb => hF b (by simp [hb])) (h'.2.2 Γ g ac w S β Fs hi hn _ _ h2 fun b hb => hF b (by simp [hb]))
    exact this⟩
theorem BorC.map {α : Type} {f f' : α → D} (h : ∀ x, Bor1 st B (f x) (f' x)) : ∀ xs : List α, BorC st B (xs.map f) (xs.map f')
  | [] => .nil
  | x :: xs => .cons (h x) (BorC.map h xs)
theorem BorC.flatMap {α : Type} {f f' : α → List D} (h : ∀ x, BorC st B (f x) (f' x)) : ∀ xs : List α, BorC st B (xs.flatMap f) (xs.flatMap f')
  | [] => .nil
  | x :: xs => by rw [List.flatMap_cons, List.flatMap_cons]; exact .append (h x) (BorC.flatMap h xs)
theorem Bor1.fr {sz n : Nat} {ds ds' : List D} (h : BorC st B ds ds') : Bor1 st B (.fr sz n ds) (.sl n 0 ds') := ⟨rfl, fun Γ g a w S β Fs hi hn y F hr hF => by
  unfold Rep at hr ⊢
  obtain ⟨aa, cap, rfl, hl, hmn, hr⟩ := hr
  rcases hr with ⟨rfl, rfl, rfl, rfl⟩ | ⟨b, o, pre, ys, rest, E, F', rfl, k1, k2, k3, k4, rfl, k5⟩
  · exact ⟨rfl, h.1, _, _, rfl, Nat.le_refl 0, .inl rfl⟩
  · refine ⟨rfl, h.1, _, _, rfl, k1, .inr ⟨b, o, ys, by simp, .inr (hF b (by simp)), ⟨pre, rest, _, _, k3, k4⟩, ?_⟩⟩
    exact h.2.2 Γ g a w S β Fs hi hn _ _ (RepL.beta _ _ _ (by rw [hmn]; simp) k5) fun c hc => hF c (by simp [hc])⟩
theorem needRoots_of {g : X} : ∀ {B : List Nat} {r : Nat}, Needs g (needRoots st B) → r ∈ B → Needs g (needRoot st r)
  | q :: B, r, hn, hr => by
    rw [needRoots, Needs.append] at hn
    rcases List.mem_cons.1 hr with rfl | hr
    · exact hn.1
    · exact needRoots_of hn.2 hr
theorem lentRoot {r sz : Nat} {cells cells' : List D} {refs : List Nat} (hr : r ∈ B) (hl : look st (2 * r + 1) = some (.r (.arr sz cells refs))) (h : BorC st B cells cells')
    {Γ : Ctx} {g : X} {a : Act} {w : World} {S : Nat → Prop} {β : Beta} {Fs : Nat → List Nat} (hi : Inv Γ g a w S β Fs) (hn : Needs g (needRoots st B)) :
    (β r = .nil ∧ cells = []) ∨ ∃ b o m ys, β r = .blk b o sz m ∧ SB S Fs B b ∧ Seg w b o ys ∧ RepL w (SB S Fs B) cells' noB ys [] := by
  have hn1 := needRoots_of hn hr
  simp only [needRoot, hl, Needs] at hn1
  have hroot := hi.roots r _ hn1.1
  cases eb : β r with
  | none => rw [eb] at hroot; exact hroot.ne.elim
  | nil => rw [eb] at hroot; exact .inl ⟨rfl, hroot.1⟩
  | blk b o szb m =>
    rw [eb] at hroot
    obtain ⟨rfl, pre, ys, rest, E, F', h1, h2, h3, hF, h5, h6⟩ := hroot
    refine .inr ⟨b, o, m, ys, rfl, .inr ⟨r, hr, by rw [hF]; simp⟩, ⟨pre, rest, _, _, h1, h3⟩, ?_⟩
    exact h.2.2 Γ g a w S β Fs hi hn _ _ (RepL.unres (List.all_eq_true.2 fun m hm => h6 m hm) h5) fun c hc => ⟨r, hr, by rw [hF]; simp [hc]⟩
theorem Bor1.rs {r off n sz : Nat} {cells cells' : List D} {refs : List Nat} (hr : r ∈ B) (hl : look st (2 * r + 1) = some (.r (.arr sz cells refs))) (h : BorC st B cells cells') : Bor1 st B (.rs r off n) (.sl n off cells') :=
  ⟨rfl, fun Γ g a w S β Fs hi hn y F hr' hF => by
    have hh := lentRoot hr hl h hi hn
    unfold Rep at hr' ⊢
    rcases hh with ⟨eb, rfl⟩ | ⟨b, o, m, ys, eb, h1, h2, h3⟩
    · rw [eb] at hr'
      obtain ⟨_, rfl, rfl, rfl⟩ := hr'
      exact ⟨rfl, h.1, _, _, rfl, Nat.le_refl 0, .inl rfl⟩
    · rw [eb] at hr'
      obtain ⟨_, cap, rfl, hcap, _⟩ := hr'
      exact ⟨rfl, h.1, _, _, rfl, hcap, .inr ⟨b, o, ys, rfl, h1, h2, h3⟩⟩⟩
theorem Bor1.rp {r off sz : Nat} {cells cells' : List D} {refs : List Nat} (hr : r ∈ B) (hl : look st (2 * r + 1) = some (.r (.arr sz cells refs))) (h : BorC st B cells cells') : Bor1 st B (.rp r off) (.pt cells' off) :=
  ⟨rfl, fun Γ g a w S β Fs hi hn y F hr' hF => by
    have hh := lentRoot hr hl h hi hn
    unfold Rep at hr' ⊢
    rcases hh with ⟨eb, rfl⟩ | ⟨b, o, m, ys, eb, h1, h2, h3⟩
    · rw [eb] at hr'; exact hr'.2.elim
    · rw [eb] at hr'
      exact ⟨rfl, h.1, b, o, ys, hr'.2, h1, h2, h3⟩⟩
theorem Bor1.fn {f : FuncId} {caps caps' : List D} (h : BorC st B caps caps') : Bor1 st B (.fn f caps) (.fb f caps') :=
  ⟨rfl, fun Γ g a w S β Fs hi hn y F hr hF => by
    unfold Rep at hr ⊢
    obtain ⟨ys, e, hr⟩ := hr
    exact ⟨rfl, h.1, ys, e, h.2.2 Γ g a w S β Fs hi hn _ _ hr hF⟩⟩
theorem Bor1.fm {f : FuncId} {caps caps' : List D} (h : BorC st B caps caps') : Bor1 st B (.fm f caps) (.fc f caps') :=
  ⟨rfl, fun Γ g a w S β Fs hi hn y F hr hF => by
    unfold Rep at hr ⊢
    obtain ⟨ys, e, hr⟩ := hr
    exact ⟨rfl, h.1, ys, e, h.2.2 Γ g a w S β Fs hi hn _ _ hr hF⟩⟩
theorem Bor.of1 {d d' : D} (h : Bor1 st B d d') : Bor st B ρ d d' := fun Γ g a w S β Fs hi hn y hr =>
  Rep.beta d' y [] (by rw [h.1]; simp) (h.2 Γ g a w S β Fs hi hn y [] hr (by simp))
theorem Bor.pass {d d' : D} (h : Pass ρ d d') : Bor st B ρ d d' := fun _ _ _ w S β _ _ _ y hr => (h w S β y hr).inS
theorem Bor.any {d : D} : Bor st B ρ d .any := Bor.pass Pass.any
theorem Bor.same {d : D} (h : d.men = []) : Bor st B ρ d d := Bor.pass (Pass.same h)
theorem Bor.keep {d : D} : Bor st B id d d := fun _ _ _ _ _ _ _ _ _ _ hr => hr.inS
theorem Bor.agg {ds ds' : List D} (h : BorC st B ds ds') : Bor st B ρ (.agg ds) (.agg ds') := fun Γ g a w S β Fs hi hn y hr => by
  unfold Rep at hr ⊢
  obtain ⟨ys, e, hr⟩ := hr
  exact ⟨ys, e, RepL.beta _ _ _ (by rw [h.1]; simp) (h.2.2 Γ g a w S β Fs hi hn _ _ hr (by simp))⟩
theorem Bor.rs {r off n sz : Nat} {cells cells' : List D} {refs : List Nat} (hr : B.contains r = true) (hl : look st (2 * r + 1) = some (.r (.arr sz cells refs))) (h : BorC st B cells cells') : Bor st B ρ (.rs r off n) (.sl n off cells') :=
  .of1 (.rs (by simpa using hr) hl h)
theorem Bor.rp {r off sz : Nat} {cells cells' : List D} {refs : List Nat} (hr : B.contains r = true) (hl : look st (2 * r + 1) = some (.r (.arr sz cells refs))) (h : BorC st B cells cells') : Bor st B ρ (.rp r off) (.pt cells' off) :=
  .of1 (.rp (by simpa using hr) hl h)
theorem Bor.ifc {ty : TypeId} {d d' : D} (h : Bor st B ρ d d') : Bor st B ρ (.ifc ty d) (.ifc ty d') := fun Γ g a w S β Fs hi hn y hr => by
  unfold Rep at hr ⊢
  obtain ⟨x, e, hr⟩ := hr
  exact ⟨x, e, h Γ g a w S β Fs hi hn x hr⟩
theorem Bor.then {d d' d'' : D} (h : Bor st B id d d') (h' : Pass ρ d' d'') : Bor st B ρ d d'' := fun Γ g a w S β Fs hi hn y hr => h' _ _ β y (h Γ g a w S β Fs hi hn y hr)
theorem Bor.fm {f : FuncId} {caps caps' : List D} (h : BorC st B caps caps') : Bor st B ρ (.fm f caps) (.fc f caps') := .of1 (.fm h)
theorem Bor.fn {f : FuncId} {caps caps' : List D} (h : BorC st B caps caps') : Bor st B ρ (.fn f caps) (.fb f caps') := .of1 (.fn h)
theorem BorL.nil : BorL st B ρ [] [] := fun _ _ _ _ _ _ _ _ _ ys h => by unfold RepT at *; exact h
theorem BorL.cons {d d' : D} {ds ds' : List D} (h : Bor st B ρ d d') (h' : BorL st B ρ ds ds') : BorL st B ρ (d :: ds) (d' :: ds') := fun Γ g a w S β Fs hi hn ys hr => by
  unfold RepT at hr ⊢
  obtain ⟨y, ys', F1, F2, rfl, e, h1, h2⟩ := hr
  simp only [List.nil_eq, List.append_eq_nil_iff] at e
  obtain ⟨rfl, rfl⟩ := e
  exact ⟨y, ys', [], [], rfl, rfl, h Γ g a w S β Fs hi hn y h1, h' Γ g a w S β Fs hi hn ys' h2⟩
def BorA (st : St) (B : List Nat) (ρ : Nat → Nat) (ds ds' : List D) : Prop := ∀ Γ g a w S β Fs, Inv Γ g a w S β Fs → Needs g (needRoots st B) → ∀ ys, RepL w S ds β ys [] → RepL w (SB S Fs B) ds' (fun i => β (ρ i)) ys []
theorem BorA.nil : BorA st B ρ [] [] := fun _ _ _ _ _ _ _ _ _ ys h => by unfold RepL at *; exact h
theorem BorA.cons {d d' : D} {ds ds' : List D} (h : Bor st B ρ d d') (h' : BorA st B ρ ds ds') : BorA st B ρ (d :: ds) (d' :: ds') := fun Γ g a w S β Fs hi hn ys hr => by
  unfold RepL at hr ⊢
  obtain ⟨y, ys', F1, F2, rfl, e, h0, h1, h2⟩ := hr
  simp only [List.nil_eq, List.append_eq_nil_iff] at e
  obtain ⟨rfl, rfl⟩ := e
  exact ⟨y, ys', [], [], rfl, rfl, h0, h Γ g a w S β Fs hi hn y h1, h' Γ g a w S β Fs hi hn ys' h2⟩
theorem Bor.aggA {ds ds' : List D} (h : BorA st B ρ ds ds') : Bor st B ρ (.agg ds) (.agg ds') := fun Γ g a w S β Fs hi hn y hr => by
  unfold Rep at hr ⊢
  obtain ⟨ys, e, hr⟩ := hr
  exact ⟨ys, e, h Γ g a w S β Fs hi hn ys hr⟩
end
inductive FrzL (st : St) (B : List Nat) : List (Nat × D) → Prop
  | nil : FrzL st B []
  | cons {t : Nat} {d d' : D} {l : List (Nat × D)} : look st (2 * t) = some (.d d) → Bor st B id d d' → FrzL st B l → FrzL st B ((t, d') :: l)
def frzWr (cv : List (Nat × D)) (B : List Nat) : Wr := cv.map (fun p => (2 * p.1, some (.d p.2))) ++ B.map fun r => (2 * r + 1, none)
theorem FrzL.rep {st : St} {B : List Nat} {Γ : Ctx} {a : Act} {w : World} {S : Nat → Prop} {β : Beta} {Fs : Nat → List Nat} (hi : Inv Γ (look st) a w S β Fs) (hn : Needs (look st) (needRoots st B)) :
    ∀ {cv : List (Nat × D)}, FrzL st B cv → ∀ t d, upd (look st) (frzWr cv B) (2 * t) = some (.d d) → Rep w (SB S Fs B) d β (a.tmps.getD t undef) []
  | _, .nil, t, d, h => by
    have h' : upd (look st) (B.map fun r => (2 * r + 1, none)) (2 * t) = some (.d d) := h
    rw [upd_other (by simp; omega)] at h'
    exact (hi.slots t d h').inS
  | _, @FrzL.cons _ _ t' d0 d' l h1 h2 h3, t, d, h => by
    have h' : (if 2 * t = 2 * t' then some (Ent.d d') else upd (look st) (frzWr l B) (2 * t)) = some (.d d) := h
    by_cases e : t = t'
    · subst e
      rw [if_pos rfl] at h'; cases h'
      exact h2 Γ _ a w S β Fs hi hn _ (hi.slots t _ h1)
    · rw [if_neg (by omega)] at h'
      exact FrzL.rep hi hn h3 t d h'
theorem upd_frz_root {g : X} {B : List Nat} {r : Nat} : ∀ {cv : List (Nat × D)}, upd g (frzWr cv B) (2 * r + 1) = if B.contains r then none else g (2 * r + 1)
  | [] => by
    show upd g (B.map fun r => (2 * r + 1, none)) (2 * r + 1) = _
    induction B with
    | nil => rfl
    | cons q B ih =>
      show (if 2 * r + 1 = 2 * q + 1 then none else upd g (B.map fun r => (2 * r + 1, none)) (2 * r + 1)) = _
      rw [ih]
      by_cases e : r = q
      · subst e; simp
      · rw [if_neg (by omega)]; simp [e]
  | p :: l => by
    show (if 2 * r + 1 = 2 * p.1 then _ else upd g (frzWr l B) (2 * r + 1)) = _
    rw [if_neg (by omega), upd_frz_root]
theorem imp_freeze {np : Nat} {st : St} {B : List Nat} {cv : List (Nat × D)} (h : FrzL st B cv) : Imp np st (updSt st (frzWr cv B)) := fun Γ hnp a w hs => by
  obtain ⟨S, β, Fs, hi⟩ := hs
  unfold Sat
  rw [look_updSt]
  refine ⟨SB S Fs B, β, fun r => if B.contains r then [] else Fs r, {
    defers := hi.defers, size := hi.size, slots := FrzL.rep hi needs_roots h, roots := ?_, noroot := ?_, nodup := ?_, disj := ?_, own := ?_, s0 := fun b hb => .inl (hi.s0 b hb), sOk := ?_, ext := hi.ext, fix := hi.fix }⟩
  · intro r x hx
    rw [upd_frz_root] at hx
    split at hx
    · cases hx
    · rename_i hc
      simp only [if_neg hc]
      exact (hi.roots r x hx).mono (fun _ _ => rfl) inSB (fun _ _ => rfl)
  · intro r hr
    simp only [upd_frz_root] at hr
    by_cases hc : B.contains r = true
    · simp only [if_pos hc]
    · simp only [if_neg hc] at hr ⊢
      exact hi.noroot r hr
  · intro r; split
    · exact List.nodup_nil
    · exact hi.nodup r
  · intro r r' hne c hc hc'
    split at hc
    · cases hc
    · split at hc'
      · cases hc'
      · exact hi.disj r r' hne c hc hc'
  · intro r c hc
    split at hc
    · cases hc
    · rename_i hB
      have h1 := hi.own r c hc
      refine ⟨?_, h1.2⟩
      rintro (hs | ⟨q, hq, hcq⟩)
      · exact h1.1 hs
      · have : q ≠ r := by rintro rfl; exact hB (by simpa using hq)
        exact hi.disj q r this c hcq hc
  · rintro b (hb | ⟨q, hq, hcq⟩)
    · exact hi.sOk b hb
    · have h1 := hi.own q b hcq
      exact ⟨h1.2.1, .inr h1.2.2⟩
theorem Bor1.rm {st : St} {B : List Nat} {r : Nat} {es : List (Value × Value)} (hr : r ∈ B) (hl : look st (2 * r + 1) = some (.r (.mp es))) : Bor1 st B (.rm r) (.bm es) :=
  ⟨rfl, fun Γ g a w S β Fs hi hn y F hr' hF => by
    have hn1 := needRoots_of hn hr
    simp only [needRoot, hl, Needs] at hn1
    obtain ⟨b, o', sz, m', entries, clock, eb, hFs, hb', he⟩ := hi.mapAt hn1.1
    unfold Rep at hr' ⊢
    rw [eb] at hr'
    exact ⟨rfl, b, hr'.2, .inr ⟨r, hr, by rw [hFs]; simp⟩, entries, clock, hb', he⟩⟩
def NoBor (d : D) : Prop := ∀ (w : World) (S S' : Nat → Prop) (β : Beta) (y : Value) (F : List Nat), Rep w S d β y F → Rep w S' d β y F
def NoBorL (ds : List D) : Prop := ∀ (w : World) (S S' : Nat → Prop) (β : Beta) (ys : List Value) (F : List Nat), RepL w S ds β ys F → RepL w S' ds β ys F
theorem NoBor.v {x : Value} : NoBor (.v x) := fun _ _ _ _ _ _ h => by unfold Rep at *; exact h
theorem NoBor.any : NoBor .any := fun _ _ _ _ _ _ h => by unfold Rep at *; exact h
theorem NoBorL.nil : NoBorL [] := fun _ _ _ _ _ _ h => by unfold RepL at *; exact h
theorem NoBorL.cons {d : D} {ds : List D} (h : NoBor d) (h' : NoBorL ds) : NoBorL (d :: ds) := fun w S S' β ys F hr => by
  unfold RepL at hr ⊢
  obtain ⟨y, ys', F1, F2, e1, e2, h0, h1, h2⟩ := hr
  exact ⟨y, ys', F1, F2, e1, e2, h0, h _ _ _ _ _ _ h1, h' _ _ _ _ _ _ h2⟩
theorem NoBorL.append {ds ds' : List D} (h : NoBorL ds) (h' : NoBorL ds') : NoBorL (ds ++ ds') := fun w S S' β ys F hr => by
  obtain ⟨y1, y2, F1, F2, rfl, rfl, h1, h2⟩ := RepL_append hr
  exact RepL_append_mk (h _ _ _ _ _ _ h1) (h' _ _ _ _ _ _ h2)
theorem NoBorL.map {α : Type} {f : α → D} (h : ∀ x, NoBor (f x)) : ∀ xs : List α, NoBorL (xs.map f)
  | [] => .nil
  | x :: xs => .cons (h x) (NoBorL.map h xs)
theorem NoBorL.flatMap {α : Type} {f : α → List D} (h : ∀ x, NoBorL (f x)) : ∀ xs : List α, NoBorL (xs.flatMap f)
  | [] => .nil
  | x :: xs => by rw [List.flatMap_cons]; exact .append (h x) (NoBorL.flatMap h xs)
theorem NoBor.agg {ds : List D} (h : NoBorL ds) : NoBor (.agg ds) := fun w S S' β y F hr => by
  unfold Rep at hr ⊢
  obtain ⟨ys, e, hr⟩ := hr
  exact ⟨ys, e, h _ _ _ _ _ _ hr⟩
theorem NoBor.tup {ds : List D} (h : ∀ d ∈ ds, NoBor d) : NoBor (.tup ds) := fun w S S' β y F hr => by
  unfold Rep at hr ⊢
  obtain ⟨ys, e, hr⟩ := hr
  refine ⟨ys, e, ?_⟩
  clear e
  induction ds generalizing ys F with
  | nil => unfold RepT at *; exact hr
  | cons d ds ih =>
    unfold RepT at hr ⊢
    obtain ⟨y, ys', F1, F2, e1, e2, h1, h2⟩ := hr
    exact ⟨y, ys', F1, F2, e1, e2, h d (by simp) _ _ _ _ _ _ h1, ih (fun d hd => h d (by simp [hd])) F2 ys' h2⟩
theorem NoBor.fr {sz n : Nat} {ds : List D} (h : NoBorL ds) : NoBor (.fr sz n ds) := fun w S S' β y F hr => by
  unfold Rep at hr ⊢
  obtain ⟨aa, cap, rfl, hl, hmn, hr⟩ := hr
  refine ⟨aa, cap, rfl, hl, hmn, ?_⟩
  rcases hr with hr | ⟨b, o, pre, ys, rest, E, F', e1, k1, k2, k3, k4, e2, k5⟩
  · exact .inl hr
  · exact .inr ⟨b, o, pre, ys, rest, E, F', e1, k1, k2, k3, k4, e2, h _ _ _ _ _ _ k5⟩
def NoBorR : Root → Prop
  | .arr _ cells _ => NoBorL cells
  | .mp _ => True
def NoBorRs : List (Nat × Root) → Prop
  | [] => True
  | p :: l => NoBorR p.2 ∧ NoBorRs l
theorem NoBorRs.get : ∀ {l : List (Nat × Root)}, NoBorRs l → ∀ p ∈ l, NoBorR p.2
  | _ :: _, h, p, hp => by
    rcases List.mem_cons.1 hp with rfl | hp
    · exact h.1
    · exact NoBorRs.get h.2 p hp
theorem RootRep.noBor {w : World} {S S' : Nat → Prop} {β : Beta} {x : Root} {rb : RefB} {F : List Nat} (hx : NoBorR x) (h : RootRep w S β x rb F) : RootRep w S' β x rb F := by
  cases x with
  | mp es => cases rb <;> exact h
  | arr sz cells refs =>
    cases rb with
    | none => exact h
    | nil => exact h
    | blk b o sz' m =>
      obtain ⟨e, pre, ys, rest, E, F', k1, k2, k3, k4, k5, k6⟩ := h
      exact ⟨e, pre, ys, rest, E, F', k1, k2, k3, k4, hx _ _ _ _ _ _ k5, k6⟩
section
variable {P : Program} {o : Oper} {N t : Nat} {st : St}
theorem fnOf_rep {d : D} {f : FuncId} {first caps : List D} (h : fnOf d = some (f, first, caps)) {w : World} {S : Nat → Prop} {β : Beta} {y : Value} (hr : Rep w S d β y []) :
    ∃ fvs cvs : List Value, y = .func (.func f) fvs.toArray cvs.toArray ∧ RepL w S first β fvs [] ∧ RepL w S caps β cvs [] := by
  cases d <;> simp [fnOf] at h
  case fn g caps' =>
    obtain ⟨rfl, rfl, rfl⟩ := h
    unfold Rep at hr
    obtain ⟨ys, e, hr⟩ := hr
    exact ⟨[], ys, e, RepL_nil, hr⟩
  case fb g caps' =>
    obtain ⟨rfl, rfl, rfl⟩ := h
    unfold Rep at hr
    obtain ⟨_, hm, ys, e, hr⟩ := hr
    exact ⟨[], ys, e, RepL_nil, RepL.beta _ _ _ (by rw [hm]; simp) hr⟩
  case fm g caps' =>
    obtain ⟨rfl, rfl, rfl⟩ := h
    unfold Rep at hr
    obtain ⟨ys, e, hr⟩ := hr
    exact ⟨ys, [], e, hr, RepL_nil⟩
  case fc g caps' =>
    obtain ⟨rfl, rfl, rfl⟩ := h
    unfold Rep at hr
    obtain ⟨_, hm, ys, e, hr⟩ := hr
    exact ⟨ys, [], e, RepL.beta _ _ _ (by rw [hm]; simp) hr, RepL_nil⟩
theorem opx_callG {f : FuncId} {xs : Array Operand} {need0 : List (Nat × Ent)} {first caps : List D} {B : List Nat} {ρ : Nat → Nat} {rin rout : List (Nat × Root)} {args : List D} {res : D} {n : Nat}
    (hd : o.dst = some t ∨ (o.dst = none ∧ (plc n res).2 = [])) (ht : t < N)
    (hf : ∀ Γ g a w S β Fs, Inv Γ g a w S β Fs → Needs g need0 → ∃ fvs cvs : List Value, (execOp a.eval o).run P w = .ok (.enter f (fvs ++ (xs.toList.map a.eval ++ cvs)).toArray) w ∧ RepT w S first β fvs [] ∧ RepT w S caps β cvs [])
    (hp : BorL st B ρ (first ++ (xs.toList.map (evD st) ++ caps)) args)
    (hc : FnC P f rin args rout res) (hb : rinB ρ rin rout = true) (hrB : ∀ p ∈ rin, ρ p.1 ∉ B) (hm : res.men = []) (hfl : flatT res = true) (hw : narrow res = true) (hnb : B = [] ∨ (NoBor res ∧ NoBorRs rout)) :
    OpX P o N (need0 ++ (needAll st xs.toList ++ (rinNeed ρ rin ++ needRoots st B))) ((match o.dst with | some t => [(2 * t, some (.d (plc n res).1))] | none => []) ++ (wrNew (plc n res).2 ++ wrRoots ρ rin rout)) (freshFrom n (widthT res + 1)) := by
  intro Γ hN g a w K Q hs hneed hfr hK
  obtain ⟨S, β, Fs, hi⟩ := hs
  simp only [Needs.append] at hneed
  obtain ⟨n1, n2, n3, n4⟩ := hneed
  obtain ⟨fvs, cvs, hrun, hfirst, hcaps⟩ := hf Γ g a w S β Fs hi n1
  simp only [rinB, Bool.and_eq_true, List.all_eq_true] at hb
  obtain ⟨⟨⟨b1, b2⟩, b3⟩, b4⟩ := hb
  have b3 := of_decide_eq_true b3
  have b4 := of_decide_eq_true b4
  have hin : RinOk g ρ rin := ⟨fun p hp => ⟨rinNeed_spec n3 p hp, fun q hq => Nat.eq_of_beq_eq_true (b1 p hp q hq)⟩, fun x hx y hy e => by rw [nodup_inj b4 x hx y hy e], fun x hx y hy e => nodup_inj b3 x hx y hy e⟩
  have hro2 : ∀ p ∈ rout, (∀ q ∈ rootRefs p.2, ρ q = q ∧ ∃ x ∈ rin, x.1 = q) ∧ ∃ q ∈ rin, q.1 = p.1 := fun p hp => by
    have := b2 p hp
    refine ⟨fun q hq => ?_, by simpa using List.any_eq_true.1 this.2⟩
    have h := this.1 q hq
    exact ⟨Nat.eq_of_beq_eq_true h.1, by simpa using List.any_eq_true.1 h.2⟩
  have hro : ∀ p ∈ rout, (∀ q ∈ rootRefs p.2, ρ q = q) ∧ ∃ q ∈ rin, q.1 = p.1 := fun p hp => ⟨fun q hq => ((hro2 p hp).1 q hq).1, (hro2 p hp).2⟩
  have hargs := hp Γ g a w S β Fs hi n4 _ (RepT_append_mk hfirst (RepT_append_mk (evAll hi n2) hcaps))
  have hroots : Roots (look (rootSt rin)) w (SB S Fs B) (fun i => β (ρ i)) (calleeF Fs ρ rin) := by
    have h0 := callee_roots hi hin
    refine { roots := fun r x hx => (h0.roots r x hx).mono (fun _ _ => rfl) inSB (fun _ _ => rfl), noroot := h0.noroot, nodup := h0.nodup, disj := h0.disj, own := fun r b hb => ⟨?_, (h0.own r b hb).2⟩, sOk := ?_ }
    · rintro (h | ⟨q, hq, hbq⟩)
      · exact (h0.own r b hb).1 h
      · obtain ⟨p, hp, hbp⟩ := owned_callee.1 ⟨r, hb⟩
        have : q ≠ ρ p.1 := by rintro rfl; exact hrB p hp hq
        exact hi.disj q (ρ p.1) this b hbq hbp
    · rintro b (h | ⟨q, hq, hbq⟩)
      · exact h0.sOk b h
      · exact (hi.own q b hbq).2.1
  have hcall := hc w (SB S Fs B) (fun i => β (ρ i)) (calleeF Fs ρ rin) _ hroots hargs
  unfold Oper.wp
  rw [hrun]
  show Calls P f _ w _
  refine hcall.mono fun e w' hpost => ?_
  obtain ⟨y, S'', Fc, F, rfl, hx, hSS, hS'', hR, hFc, hrep, hFn, hFo⟩ := hpost
  show K (a.put o.dst y) w'
  obtain ⟨S', hS1, hS2, hS3, hR', hrep1⟩ : ∃ S' : Nat → Prop, (∀ b, S b → S' b) ∧ (∀ b, S' b → S'' b) ∧ (∀ b, S' b → b < w'.heap.size ∧ (S b ∨ owned (calleeF Fs ρ rin) b ∨ w.heap.size ≤ b)) ∧
      Roots (look (rootSt rout)) w' S' (fun i => β (ρ i)) Fc ∧ Rep w' S' res (fun i => β (ρ i)) y F := by
    rcases hnb with rfl | ⟨hnb1, hnb2⟩
    · have hl : ∀ b, ¬ lent Fs [] b := fun b ⟨q, hq, _⟩ => by cases hq
      refine ⟨S'', fun b hb => hSS b (.inl hb), fun b hb => hb, fun b hb => ⟨(hS'' b hb).1, ?_⟩, hR, hrep⟩
      rcases (hS'' b hb).2 with (h | h) | h
      · exact .inl h
      · exact (hl b h).elim
      · exact .inr h
    · refine ⟨fun b => S'' b ∧ ¬ lent Fs B b, fun b hb => ⟨hSS b (.inl hb), fun ⟨q, hq, hbq⟩ => (hi.own q b hbq).1 hb⟩, fun b hb => hb.1, fun b hb => ⟨(hS'' b hb.1).1, ?_⟩, ?_, hnb1 _ _ _ _ _ _ hrep⟩
      · rcases (hS'' b hb.1).2 with (h | h) | h
        · exact .inl h
        · exact (hb.2 h).elim
        · exact .inr h
      · exact { roots := fun r x hx => (hR.roots r x hx).noBor (NoBorRs.get hnb2 _ (look_rootSt_mem hx)), noroot := hR.noroot, nodup := hR.nodup, disj := hR.disj, own := fun r b hb => ⟨fun h => (hR.own r b hb).1 h.1, (hR.own r b hb).2⟩, sOk := fun b hb => hR.sOk b hb.1 }
  have hi2 := hi.call hin hro hx hS1 hS3 hR' hFc
  have fromF0 : ∀ b, owned (calleeF Fs ρ rin) b ∨ w.heap.size ≤ b → Γ.F0 b ∨ Γ.w0.heap.size ≤ b := by
    rintro b (h | h)
    · obtain ⟨p, hp, hb'⟩ := owned_callee.1 h
      exact (hi.own _ b hb').2.2
    · exact .inr (Nat.le_trans hi.ext.size h)
  have hfree : FOk Γ w' S' (backF Fs Fc ρ rin) F := by
    intro b hb
    have h1 := hFo b hb
    refine ⟨fun h => h1.1 (hS2 b h), h1.2.1, fromF0 b h1.2.2.1, fun q hq => ?_⟩
    rcases backF_cases (Fs := Fs) (Fc := Fc) (ρ := ρ) (rin := rin) q with ⟨p, hp, rfl, e⟩ | ⟨hno, e⟩
    · rw [e] at hq; exact h1.2.2.2 _ hq
    · rw [e] at hq
      rcases h1.2.2.1 with h | h
      · obtain ⟨p, hp, hb'⟩ := owned_callee.1 h
        exact hi.disj (ρ p.1) q (hno p hp) b hb' hq
      · have := (hi.own q b hq).2.1; omega
  have hnp : ∀ i, i < widthT res + 1 → Γ.np ≤ n + i ∧ FreshName g (n + i) := fun i hi => hfr (n + i) (by
    simp only [freshFrom, List.mem_range'_1]; omega)
  have hfr2 : ∀ i, i < widthT res → FreshName (upd g (wrRoots ρ rin rout)) (n + i) := fun i hi' => (hnp i (by omega)).2.updAll fun p hp => by
    obtain ⟨q, hq, rfl⟩ := List.mem_map.1 hp
    refine ⟨fun e => ?_, fun e he => ?_⟩
    · have := (hnp i (by omega)).2 _ _ (rinNeed_spec n3 q hq)
      exact this.1 e
    · obtain ⟨x, rfl⟩ := look_rootSt_odd he
      refine names_refs fun m hm e2 => ?_
      obtain ⟨e3, y, hy, e4⟩ := (hro2 _ (look_rootSt_mem he)).1 m hm
      have := (hnp i (by omega)).2 _ _ (rinNeed_spec n3 y hy)
      rw [e4, e3] at this
      exact this.1 (by rw [e2])
  have hrep' : Rep w' S' res β y F := Rep.beta res y F (by rw [hm]; simp) hrep1
  obtain ⟨β', Fs', hi3, hr3⟩ := place hi2 hrep' hFn hfree hm hfl hw (by have := (hnp 0 (by omega)).1; simpa using this) hfr2
  cases hdd : o.dst with
  | none =>
    have hK' := hK (a.put o.dst y) w'
    rw [hdd] at hK'
    refine hK' ⟨S', β', Fs', ?_⟩
    rw [List.nil_append, upd_append]
    exact hi3
  | some t' =>
    have e : t' = t := by
      rcases hd with h | h
      · rw [hdd] at h; cases h; rfl
      · rw [hdd] at h; cases h.1
    subst e
    have hK' := hK (a.put o.dst y) w'
    rw [hdd] at hK'
    refine hK' ⟨S', β', Fs', ?_⟩
    rw [upd_append, upd_append]
    exact hi3.put (by omega) hr3
theorem opx_callB {f : FuncId} {fop : Operand} {xs : Array Operand} {ts : Array TypeId} {first caps : List D} {B : List Nat} {ρ : Nat → Nat} {rin rout : List (Nat × Root)} {args : List D} {res : D} {n : Nat}
    (ho : o.op = .call ⟨.value fop, xs, ts⟩) (hd : o.dst = some t ∨ (o.dst = none ∧ (plc n res).2 = [])) (ht : t < N) (hf : fnOf (evD st fop) = some (f, first, caps)) (hok : CallOk P f) (hp : BorL st B ρ (first ++ (xs.toList.map (evD st) ++ caps)) args)
    (hc : FnC P f rin args rout res) (hb : rinB ρ rin rout = true) (hrB : ∀ p ∈ rin, ρ p.1 ∉ B) (hm : res.men = []) (hfl : flatT res = true) (hw : narrow res = true) (hnb : B = [] ∨ (NoBor res ∧ NoBorRs rout)) :
    OpX P o N (needOf st fop ++ (needAll st xs.toList ++ (rinNeed ρ rin ++ needRoots st B))) ((match o.dst with | some t => [(2 * t, some (.d (plc n res).1))] | none => []) ++ (wrNew (plc n res).2 ++ wrRoots ρ rin rout)) (freshFrom n (widthT res + 1)) :=
  opx_callG hd ht (fun Γ g a w S β Fs hi n1 => by
    obtain ⟨fvs, cvs, ef, hfirst, hcaps⟩ := fnOf_rep hf (hi.eval n1)
    refine ⟨fvs, cvs, ?_, hfirst.toT, hcaps.toT⟩
    simp only [execOp, ho, resolve, ef, Deferred.ofValue, Sem.run_bind, Sem.run_pure, Result.andThen_ok, invoke]
    rw [show (fvs.toArray ++ Array.map a.eval xs ++ cvs.toArray) = (fvs ++ (xs.toList.map a.eval ++ cvs)).toArray by apply Array.ext'; simp]
    exact hok w _) hp hc hb hrB hm hfl hw hnb
def methB (P : Program) (ty : TypeId) (name : String) (f : FuncId) : Bool :=
  match P.info? ty with
  | some i => match i.methods.find? (·.name == name) with
    | some m => m.path.isEmpty && (match m.func with | some (g, b) => g == f && !b | none => false) && (match P.underlying ty with | some (.struct _) => true | _ => false)
    | none => false
  | none => false
theorem meth_run {ty : TypeId} {name : String} {f : FuncId} (h : methB P ty name f = true) (w : World) (x : Value) (k : Nat) : (method (k + 1) ty x name).run P w = .ok (f, x) w := by
  unfold methB at h
  split at h
  · rename_i i hi
    split at h
    · rename_i m hm
      simp only [Bool.and_eq_true] at h
      obtain ⟨⟨h1, h2⟩, h3⟩ := h
      have hp : m.path = #[] := by simpa [Array.isEmpty_iff] using h1
      split at h2
      · rename_i g b hfn
        simp only [Bool.and_eq_true, beq_iff_eq, Bool.not_eq_true'] at h2
        obtain ⟨rfl, rfl⟩ := h2
        split at h3
        · rename_i fs hu
          simp [method, typeInfo, hi, hm, hp, hfn, follow, receiverAt, underlying, hu, Place.get]
        · cases h3
      · cases h2
    · cases h
  · cases h
theorem opx_invoke {f : FuncId} {rcv : Operand} {name : String} {xs : Array Operand} {ts : Array TypeId} {ty : TypeId} {d : D} {B : List Nat} {ρ : Nat → Nat} {rin rout : List (Nat × Root)} {args : List D} {res : D} {n : Nat}
    (ho : o.op = .call ⟨.invoke rcv name, xs, ts⟩) (hd : o.dst = some t ∨ (o.dst = none ∧ (plc n res).2 = [])) (ht : t < N) (hr : evD st rcv = .ifc ty d) (hm' : methB P ty name f = true) (hok : CallOk P f) (hp : BorL st B ρ ([d] ++ (xs.toList.map (evD st) ++ [])) args)
    (hc : FnC P f rin args rout res) (hb : rinB ρ rin rout = true) (hrB : ∀ p ∈ rin, ρ p.1 ∉ B) (hm : res.men = []) (hfl : flatT res = true) (hw : narrow res = true) (hnb : B = [] ∨ (NoBor res ∧ NoBorRs rout)) :
    OpX P o N (needOf st rcv ++ (needAll st xs.toList ++ (rinNeed ρ rin ++ needRoots st B))) ((match o.dst with | some t => [(2 * t, some (.d (plc n res).1))] | none => []) ++ (wrNew (plc n res).2 ++ wrRoots ρ rin rout)) (freshFrom n (widthT res + 1)) :=
  opx_callG hd ht (fun Γ g a w S β Fs hi n1 => by
    have h1 := hi.eval n1
    rw [hr] at h1
    unfold Rep at h1
    obtain ⟨x, e, h1⟩ := h1
    refine ⟨[x], [], ?_, by unfold RepT; exact ⟨x, [], [], [], rfl, rfl, h1, by unfold RepT; exact ⟨rfl, rfl⟩⟩, by unfold RepT; exact ⟨rfl, rfl⟩⟩
    have hmr := meth_run (P := P) hm' w x (P.types.size + (Made.depth - 1))
    rw [show P.types.size + (Made.depth - 1) + 1 = P.types.size + Made.depth by unfold Made.depth; omega] at hmr
    have ea : (#[Value.iface ty x] ++ Array.map a.eval xs)[0]? = some (Value.iface ty x) := by
      rw [Array.getElem?_append_left (by simp)]; rfl
    have ee : (#[Value.iface ty x] ++ Array.map a.eval xs).extract 1 (#[Value.iface ty x] ++ Array.map a.eval xs).size = Array.map a.eval xs := by
      apply Array.ext'
      simp only [Array.toList_extract, List.extract, Array.toList_append, List.cons_append, List.nil_append, List.drop_succ_cons, List.drop_zero, Array.size_append, Array.toList_map]
      apply List.take_of_length_le
      simp
    simp only [execOp, ho, resolve, Sem.run_bind, Sem.run_pure, Result.andThen_ok, invoke, e, ea, callMethod, run_program, hmr, ee]
    rw [show (#[x] ++ Array.map a.eval xs) = ([x] ++ (xs.toList.map a.eval ++ [])).toArray by apply Array.ext'; simp]
    exact hok w _) hp hc hb hrB hm hfl hw hnb
end
end Go.Gx
namespace Go.Gx
section
variable {P : Program} {o : Oper} {N t : Nat} {st : St} {T : Tab}
def isEq : BinOp → Option Bool
  | .eql => some true
  | .neq => some false
  | _ => none
theorem opx_eqBool (hT : TabOk P T) {op : BinOp} {e : Bool} {s T2 : TypeId} {x y : Operand} {a b : Bool} {i : TI} (ho : o.op = .binOp op s x y T2) (hd : o.dst = some t) (ht : t < N)
    (hop : isEq op = some e) (hs : T.get s = some i) (hi' : i.desc = .bool) (hx : evD st x = .v (.bool a)) (hy : evD st y = .v (.bool b)) :
    OpX P o N (needOf st x ++ needOf st y) [(2 * t, some (.d (.v (.bool ((a == b) == e)))))] [] :=
  opx_val hd ht fun Γ g ac w S β Fs hi hn => by
    rw [Needs.append] at hn
    have h1 := hi.eval hn.1
    have h2 := hi.eval hn.2
    rw [hx, Rep_v] at h1
    rw [hy, Rep_v] at h2
    have hu := (hT.get hs).1
    rw [hi'] at hu
    refine ⟨.bool ((a == b) == e), ?_, by rw [Rep_v]; exact ⟨rfl, rfl⟩⟩
    simp only [execOp, ho, h1.1, h2.1]
    cases op <;> simp [isEq] at hop <;> subst hop <;> simp [eqGuard, binOp, run_equal_bool w s a b hu]
def eqInts : List D → List D → Option Bool
  | [], [] => some true
  | [.v (.int .i64 a)], [.v (.int .i64 b)] => some (a == b)
  | .v (.int .i64 a) :: l, .v (.int .i64 b) :: l' => match eqInts l l' with
    | some r => some (a == b && r)
    | none => none
  | _, _ => none
def intField (T : Tab) : Nat → List Field → Bool
  | _, [] => true
  | k, f :: fs => f.name != "_" && Nat.beq f.offset k && (match T.get f.type with | some i => (match i.desc with | .int _ => true | _ => false) | none => false) && intField T (k + 1) fs
theorem eqInts_cons {a b : Int} {l l' : List D} {r : Bool} (h : eqInts (.v (.int .i64 a) :: l) (.v (.int .i64 b) :: l') = some r) : ∃ r', eqInts l l' = some r' ∧ r = (a == b && r') := by
  cases l with
  | nil => cases l' with
    | nil => simp [eqInts] at h ⊢; exact h.symm
    | cons d l' => simp [eqInts] at h
  | cons d l => cases l' with
    | nil => simp [eqInts] at h
    | cons d' l' =>
      unfold eqInts at h
      split at h
      · rename_i r' h'; cases h; exact ⟨r', h', rfl⟩
      · cases h
theorem eqInts_shape {d d' : D} {l l' : List D} {r : Bool} (h : eqInts (d :: l) (d' :: l') = some r) : ∃ a b, d = .v (.int .i64 a) ∧ d' = .v (.int .i64 b) := by
  unfold eqInts at h
  split at h
  · rename_i h1 h2; cases h1
  · rename_i a b h1 h2; cases h1; cases h2; exact ⟨a, b, rfl, rfl⟩
  · rename_i a l1 b l2 _ h1 h2; cases h1; cases h2; exact ⟨a, b, rfl, rfl⟩
  · cases h
theorem run_eqFields (hT : TabOk P T) {w : World} {S : Nat → Prop} {β : Beta} (d : Nat) : ∀ (fs : List Field) (k : Nat) (xs ys : List Value) (l l' : List D) (F F' : List Nat) (r : Bool) (px py : List Value), intField T k fs = true → px.length = k → py.length = k → l.length = fs.length →
    RepL w S l β xs F → RepL w S l' β ys F' → eqInts l l' = some r → (Op.eqFields (d + 1) (px ++ xs).toArray (py ++ ys).toArray fs).run P w = .ok r w
  | [], k, xs, ys, l, l', F, F', r, px, py, _, _, _, hl, _, _, he => by
    have : l = [] := List.eq_nil_of_length_eq_zero (by simpa using hl)
    subst this
    cases l' with
    | nil => simp [eqInts] at he; subst he; simp [Op.eqFields]
    | cons d' l' => simp [eqInts] at he
  | f :: fs, k, xs, ys, l, l', F, F', r, px, py, hf, hpx, hpy, hl, hx, hy, he => by
    simp only [intField, Bool.and_eq_true, bne_iff_ne, ne_eq] at hf
    obtain ⟨⟨⟨f1, f2⟩, f3⟩, f4⟩ := hf
    have f2 := Nat.eq_of_beq_eq_true f2
    cases l with
    | nil => simp at hl
    | cons d0 l =>
      cases l' with
      | nil => unfold eqInts at he; simp at he
      | cons d0' l' =>
        obtain ⟨a, b, rfl, rfl⟩ := eqInts_shape he
        obtain ⟨r', he', rfl⟩ := eqInts_cons he
        unfold RepL at hx hy
        obtain ⟨y1, xs', F1, F2, rfl, rfl, _, hx1, hx2⟩ := hx
        obtain ⟨y2, ys', F3, F4, rfl, rfl, _, hy1, hy2⟩ := hy
        rw [Rep_v] at hx1 hy1
        obtain ⟨rfl, rfl⟩ := hx1
        obtain ⟨rfl, rfl⟩ := hy1
        split at f3
        · rename_i i hi
          split at f3
          · rename_i k' hk'
            have hu := (hT.get hi).1
            rw [hk'] at hu
            have hag : (isAgg f.type).run P w = .ok false w := by rw [isAgg_run hT hi, hk']; rfl
            have g1 : (px ++ Value.int .i64 a :: xs').toArray[f.offset]? = some (.int .i64 a) := by simp [f2, ← hpx]
            have g2 : (py ++ Value.int .i64 b :: ys').toArray[f.offset]? = some (.int .i64 b) := by simp [f2, ← hpy]
            have ih := run_eqFields hT d fs (k + 1) xs' ys' l l' F2 F4 r' (px ++ [.int .i64 a]) (py ++ [.int .i64 b]) f4 (by simp [hpx]) (by simp [hpy]) (by simpa using hl) hx2 hy2 he'
            simp only [List.append_assoc, List.singleton_append] at ih
            simp only [Op.eqFields, ne_eq, f1, not_false_eq_true, if_true, part, Sem.run_bind, hag, Result.andThen_ok, Bool.false_eq_true, if_false, g1, g2, Sem.run_pure, run_equalIn_int w d f.type .i64 k' a b hu]
            cases hab : a == b
            · simp
            · simp [ih]
          · cases f3
        · cases f3
theorem opx_eqStruct (hT : TabOk P T) {op : BinOp} {e : Bool} {s T2 : TypeId} {x y : Operand} {r : Bool} {i : TI} {fs : Array Field} {l l' : List D} (ho : o.op = .binOp op s x y T2) (hd : o.dst = some t) (ht : t < N)
    (hop : isEq op = some e) (hs : T.get s = some i) (hi' : i.desc = .struct fs) (hx : evD st x = .agg l) (hy : evD st y = .agg l') (he : eqInts l l' = some r) (hf : intField T 0 fs.toList = true) (hl : l.length = fs.size)
    (hp : P.stoodInHeld s = false) (hg : P.eqGuardType P.depth s = false) :
    OpX P o N (needOf st x ++ needOf st y) [(2 * t, some (.d (.v (.bool (r == e)))))] [] :=
  opx_val hd ht fun Γ g ac w S β Fs hi hn => by
    rw [Needs.append] at hn
    have h1 := hi.eval hn.1
    have h2 := hi.eval hn.2
    rw [hx] at h1
    rw [hy] at h2
    unfold Rep at h1 h2
    obtain ⟨xs, e1, h1⟩ := h1
    obtain ⟨ys, e2, h2⟩ := h2
    have hu := (hT.get hs).1
    rw [hi'] at hu
    have hfo : P.fieldsOf s = fs := by unfold Program.fieldsOf; rw [hu]
    have hrun := run_eqFields hT (w := w) (S := S) (β := β) 9998 fs.toList 0 xs ys l l' _ _ r [] [] hf rfl rfl (by simpa using hl) h1 h2 he
    simp only [List.nil_append] at hrun
    have heq : (Op.equalIn 10000 s (.agg xs.toArray) (.agg ys.toArray)).run P w = .ok r w := by
      rw [show (10000 : Nat) = 9999 + 1 from rfl, run_equalIn_agg w 9999 s _ _ (by rw [hfo]; exact hu) hp, hfo]
      exact hrun
    refine ⟨.bool (r == e), ?_, by rw [Rep_v]; exact ⟨rfl, rfl⟩⟩
    simp only [execOp, ho, e1, e2, Sem.run_bind, run_eqGuard_agg w op s x y _ _ hg, Result.andThen_ok]
    cases op <;> simp [isEq] at hop <;> subst hop
    · rw [run_eql_struct, heq]; simp
    · rw [run_neq_struct, heq]; simp
def intT (T : Tab) (E : Nat) : Bool := match T.get E with
  | some i => (match i.desc with | .int _ => Nat.beq i.size 1 | _ => false)
  | none => false
theorem run_equalIn_arr3 (w : World) (d : Nat) {t E : TypeId} {k : IntKind} {a b c a' b' c' : Int} (ht : P.underlying t = some (.array 3 E)) (hE : P.underlying E = some (.int k)) (hz : ∀ w, (sizeOf E).run P w = .ok 1 w) (hg : ∀ w, (isAgg E).run P w = .ok false w) :
    (Op.equalIn (d + 1 + 1) t (.agg #[.int .i64 a, .int .i64 b, .int .i64 c]) (.agg #[.int .i64 a', .int .i64 b', .int .i64 c'])).run P w = .ok (a == a' && (b == b' && c == c')) w := by
  have e := fun a b => run_equalIn_int w d E .i64 k a b hE
  rw [Op.equalIn]
  simp only [Sem.run_bind, run_underlying ht, Result.andThen_ok, hz]
  by_cases ha : a = a' <;> by_cases hb : b = b' <;> by_cases hc : c = c' <;> simp [List.range', part, hg, e, ha, hb, hc]
theorem opx_eqArr3 (hT : TabOk P T) {op : BinOp} {e : Bool} {s T2 : TypeId} {x y : Operand} {r : Bool} {i : TI} {E : TypeId} {l l' : List D} (ho : o.op = .binOp op s x y T2) (hd : o.dst = some t) (ht : t < N)
    (hop : isEq op = some e) (hs : T.get s = some i) (hi' : i.desc = .array 3 E) (hx : evD st x = .agg l) (hy : evD st y = .agg l') (he : eqInts l l' = some r) (hf : intT T E = true) (hl : l.length = 3)
    (hg : P.eqGuardType P.depth s = false) :
    OpX P o N (needOf st x ++ needOf st y) [(2 * t, some (.d (.v (.bool (r == e)))))] [] :=
  opx_val hd ht fun Γ g ac w S β Fs hi hn => by
    rw [Needs.append] at hn
    have h1 := hi.eval hn.1
    have h2 := hi.eval hn.2
    rw [hx] at h1
    rw [hy] at h2
    unfold Rep at h1 h2
    obtain ⟨xs, e1, h1⟩ := h1
    obtain ⟨ys, e2, h2⟩ := h2
    have hu := (hT.get hs).1
    rw [hi'] at hu
    unfold intT at hf
    split at hf
    · rename_i j hj
      split at hf
      · rename_i k hk
        have hE := (hT.get hj).1
        rw [hk] at hE
        have hz : ∀ w, (sizeOf E).run P w = .ok 1 w := fun w => by rw [(hT.get hj).size w, Nat.eq_of_beq_eq_true hf]
        have hag : ∀ w, (isAgg E).run P w = .ok false w := fun w => by rw [isAgg_run hT hj, hk]; rfl
        match l, hl with
        | [d1, d2, d3], _ =>
          match l' with
          | [] => simp [eqInts] at he
          | d1' :: l1 =>
            obtain ⟨a, a', rfl, rfl⟩ := eqInts_shape he
            obtain ⟨r1, hq1, er1⟩ := eqInts_cons he
            clear he
            subst er1
            match l1 with
            | [] => simp [eqInts] at hq1
            | d2' :: l2 =>
              obtain ⟨b, b', rfl, rfl⟩ := eqInts_shape hq1
              obtain ⟨r2, hq2, rfl⟩ := eqInts_cons hq1
              clear hq1
              match l2 with
              | [] => simp [eqInts] at hq2
              | d3' :: l3 =>
                obtain ⟨c, c', rfl, rfl⟩ := eqInts_shape hq2
                obtain ⟨r3, hq3, rfl⟩ := eqInts_cons hq2
                clear hq2
                match l3 with
                | _ :: _ => simp [eqInts] at hq3
                | [] =>
                  obtain rfl : true = r3 := by simpa [eqInts] using hq3
                  simp only [RepL, Rep_v] at h1 h2
                  obtain ⟨_, _, _, _, rfl, _, _, ⟨rfl, _⟩, _, _, _, _, rfl, _, _, ⟨rfl, _⟩, _, _, _, _, rfl, _, _, ⟨rfl, _⟩, rfl, _⟩ := h1
                  obtain ⟨_, _, _, _, rfl, _, _, ⟨rfl, _⟩, _, _, _, _, rfl, _, _, ⟨rfl, _⟩, _, _, _, _, rfl, _, _, ⟨rfl, _⟩, rfl, _⟩ := h2
                  have heq : (Op.equalIn 10000 s (.agg #[.int .i64 a, .int .i64 b, .int .i64 c]) (.agg #[.int .i64 a', .int .i64 b', .int .i64 c'])).run P w = .ok (a == a' && (b == b' && c == c')) w :=
                    run_equalIn_arr3 w 9998 hu hE hz hag
                  refine ⟨.bool ((a == a' && (b == b' && (c == c' && true))) == e), ?_, by rw [Rep_v]; exact ⟨rfl, rfl⟩⟩
                  simp only [execOp, ho, e1, e2, Sem.run_bind, run_eqGuard_agg w op s x y _ _ hg, Result.andThen_ok]
                  cases op <;> simp [isEq] at hop <;> subst hop
                  · rw [run_eql_struct, heq]; simp
                  · rw [run_neq_struct, heq]; simp
      · cases hf
    · cases hf
end
end Go.Gx
namespace Go.Gx
section
variable {P : Program} {T : Tab}
theorem eqInts_ints : ∀ {l l' : List D} {r : Bool}, eqInts l l' = some r → ∃ x y : List Int, l = x.map (fun n => D.v (.int .i64 n)) ∧ l' = y.map (fun n => D.v (.int .i64 n)) ∧ x.length = y.length ∧ r = (x == y)
  | [], [], r, h => by simp [eqInts] at h; subst h; exact ⟨[], [], rfl, rfl, rfl, rfl⟩
  | [], d :: l', r, h => by simp [eqInts] at h
  | d :: l, [], r, h => by unfold eqInts at h; simp at h
  | d :: l, d' :: l', r, h => by
    obtain ⟨a, b, rfl, rfl⟩ := eqInts_shape h
    obtain ⟨r', h', rfl⟩ := eqInts_cons h
    obtain ⟨x, y, rfl, rfl, e, rfl⟩ := eqInts_ints h'
    exact ⟨a :: x, b :: y, rfl, rfl, by simp [e], by simp⟩
theorem RepL_ints {w : World} {S : Nat → Prop} {β : Beta} : ∀ {x : List Int} {ys : List Value} {F : List Nat}, RepL w S (x.map fun n => D.v (.int .i64 n)) β ys F → ys = x.map (Value.int .i64)
  | [], ys, F, h => by unfold RepL at h; simpa using h.1
  | n :: x, ys, F, h => by
    simp only [List.map_cons] at h
    unfold RepL at h
    obtain ⟨y1, ys', F1, F2, rfl, rfl, _, h1, h2⟩ := h
    rw [Rep_v] at h1
    obtain ⟨rfl, _⟩ := h1
    rw [RepL_ints h2]; rfl
theorem beq_app {a b c d : List Int} (h : a.length = b.length) : ((a ++ c) == (b ++ d)) = ((a == b) && (c == d)) := by
  rw [Bool.eq_iff_iff]
  simp only [beq_iff_eq, Bool.and_eq_true]
  constructor
  · intro e; exact List.append_inj e h
  · rintro ⟨rfl, rfl⟩; rfl
theorem drop_split (x : List Int) (k n m : Nat) : (x.drop k).take (m + n) = (x.drop k).take m ++ (x.drop (k + m)).take n := by
  rw [List.take_add, List.drop_drop]
theorem run_items {w : World} {d : Nat} {e : TypeId} {c : Nat} {X Y : List Int} (hl : X.length = Y.length)
    (hrow : ∀ i, (i + 1) * c ≤ X.length → ∃ a b, (part e (X.map (Value.int .i64)).toArray (i * c)).run P w = .ok a w ∧ (part e (Y.map (Value.int .i64)).toArray (i * c)).run P w = .ok b w ∧
      (Op.equalIn d e a b).run P w = .ok (((X.drop (i * c)).take c) == ((Y.drop (i * c)).take c)) w) : ∀ (n k : Nat), (k + n) * c ≤ X.length →
    (Op.eqItems d e c (X.map (Value.int .i64)).toArray (Y.map (Value.int .i64)).toArray (List.range' k n)).run P w = .ok (((X.drop (k * c)).take (n * c)) == ((Y.drop (k * c)).take (n * c))) w
  | 0, k, _ => by simp [Op.eqItems]
  | n + 1, k, h => by
    have hk : (k + 1) * c ≤ X.length := Nat.le_trans (Nat.mul_le_mul_right c (by omega)) h
    obtain ⟨a, b, h1, h2, h3⟩ := hrow k hk
    have ih := run_items hl hrow n (k + 1) (by rw [show k + 1 + n = k + (n + 1) by omega]; exact h)
    rw [List.range'_succ]
    simp only [Op.eqItems, Sem.run_bind, h1, h2, h3, Result.andThen_ok]
    rw [show (n + 1) * c = c + n * c by rw [Nat.succ_mul, Nat.add_comm], drop_split, drop_split, beq_app (by simp [hl]), show k * c + c = (k + 1) * c by rw [Nat.succ_mul]]
    cases hb : ((X.drop (k * c)).take c) == ((Y.drop (k * c)).take c)
    · simp
    · simpa using ih
def nestOf (T : Tab) (E : Nat) : Option Nat :=
  match T.get E with
  | some i => match i.desc with
    | .array m F => if intT T F && Nat.beq i.size m then some m else none
    | _ => none
  | none => none
theorem run_eqRow (hT : TabOk P T) {w : World} {d E F m : Nat} {i : TI} {X Y : List Int} (hE : T.get E = some i) (hd : i.desc = .array m F) (hF : intT T F = true) (hx : X.length = m) (hy : Y.length = m) :
    (Op.equalIn (d + 2) E (.agg (X.map (Value.int .i64)).toArray) (.agg (Y.map (Value.int .i64)).toArray)).run P w = .ok (X == Y) w := by
  unfold intT at hF
  split at hF
  · rename_i j hj
    split at hF
    · rename_i k hk
      have hz := Nat.eq_of_beq_eq_true hF
      have uE : P.underlying E = some (.array m F) := by rw [(hT.get hE).1, hd]
      have uF : P.underlying F = some (.int k) := by rw [(hT.get hj).1, hk]
      obtain ⟨_, inf, z, hi1, hi2, _⟩ := hT.get hj
      have hag : (isAgg F).run P w = .ok false w := by rw [isAgg_run hT hj, hk]; rfl
      have hc : P.cellsOf F = 1 := by simp [Program.cellsOf, hi1]; omega
      rw [show d + 2 = (d + 1) + 1 from rfl, run_equalIn_array w (d + 1) _ _ uE hi1, hc, List.range_eq_range', run_items (by omega) (fun q hq => ?_) m 0 (by omega)]
      · simp only [List.drop_zero, Nat.mul_one]
        rw [← hx, List.take_length, hx, ← hy, List.take_length]
      · have hqx : q < X.length := by omega
        have hqy : q < Y.length := by omega
        refine ⟨.int .i64 X[q], .int .i64 Y[q], ?_, ?_, ?_⟩
        · simp [part, hag, hqx]
        · simp [part, hag, hqy]
        · rw [run_equalIn_int w d F .i64 k X[q] Y[q] uF]
          congr 1
          have t1 : (X.drop q).take 1 = [X[q]] := by rw [List.drop_eq_getElem_cons hqx]; rfl
          have t2 : (Y.drop q).take 1 = [Y[q]] := by rw [List.drop_eq_getElem_cons hqy]; rfl
          rw [Nat.mul_one, t1, t2]
          simp
    · cases hF
  · cases hF
theorem run_eqNest (hT : TabOk P T) {w : World} {d s E n m : Nat} {i : TI} {X Y : List Int} (hs : T.get s = some i) (hd : i.desc = .array n E) (hm : nestOf T E = some m) (hx : X.length = n * m) (hy : Y.length = n * m) :
    (Op.equalIn (d + 3) s (.agg (X.map (Value.int .i64)).toArray) (.agg (Y.map (Value.int .i64)).toArray)).run P w = .ok (X == Y) w := by
  unfold nestOf at hm
  split at hm
  · rename_i j hj
    split at hm
    · rename_i m' F hd'
      split at hm
      · rename_i hb
        cases hm
        simp only [Bool.and_eq_true] at hb
        have hz := Nat.eq_of_beq_eq_true hb.2
        have us : P.underlying s = some (.array n E) := by rw [(hT.get hs).1, hd]
        obtain ⟨_, inf, z, hi1, hi2, _⟩ := hT.get hj
        have hag : (isAgg E).run P w = .ok true w := by rw [isAgg_run hT hj, hd']; rfl
        have hc : P.cellsOf E = m := by simp [Program.cellsOf, hi1]; omega
        have hsz : (sizeOf E).run P w = .ok m w := by rw [(hT.get hj).size, hz]
        rw [show d + 3 = (d + 2) + 1 from rfl, run_equalIn_array w (d + 2) _ _ us hi1, hc, List.range_eq_range', run_items (by omega) (fun q hq => ?_) n 0 (by rw [Nat.zero_add, hx]; exact Nat.le_refl _)]
        · simp only [Nat.zero_mul, List.drop_zero]
          rw [← hx, List.take_length, hx, ← hy, List.take_length]
        · have hq' : q * m + m ≤ X.length := by rw [Nat.succ_mul] at hq; exact hq
          have hqy : q * m + m ≤ Y.length := by omega
          refine ⟨.agg (((X.drop (q * m)).take m).map (Value.int .i64)).toArray, .agg (((Y.drop (q * m)).take m).map (Value.int .i64)).toArray, ?_, ?_, ?_⟩
          · simp [part, hag, hsz, List.extract_toArray, List.extract, List.map_drop, List.map_take]
          · simp [part, hag, hsz, List.extract_toArray, List.extract, List.map_drop, List.map_take]
          · exact run_eqRow hT hj hd' hb.1 (by simp; omega) (by simp; omega)
      · cases hm
    · cases hm
  · cases hm
theorem opx_eqNest (hT : TabOk P T) {o : Oper} {N t : Nat} {st : St} {op : BinOp} {e : Bool} {s T2 : TypeId} {x y : Operand} {r : Bool} {i : TI} {n E m : Nat} {l l' : List D} (ho : o.op = .binOp op s x y T2) (hd : o.dst = some t) (ht : t < N)
    (hop : isEq op = some e) (hs : T.get s = some i) (hi' : i.desc = .array n E) (hm : nestOf T E = some m) (hx : evD st x = .agg l) (hy : evD st y = .agg l') (he : eqInts l l' = some r) (hl : l.length = n * m)
    (hg : P.eqGuardType P.depth s = false) :
    OpX P o N (needOf st x ++ needOf st y) [(2 * t, some (.d (.v (.bool (r == e)))))] [] :=
  opx_val hd ht fun Γ g ac w S β Fs hi hn => by
    rw [Needs.append] at hn
    have h1 := hi.eval hn.1
    have h2 := hi.eval hn.2
    rw [hx] at h1
    rw [hy] at h2
    unfold Rep at h1 h2
    obtain ⟨xs, e1, h1⟩ := h1
    obtain ⟨ys, e2, h2⟩ := h2
    obtain ⟨X, Y, rfl, rfl, hXY, rfl⟩ := eqInts_ints he
    have a1 := RepL_ints h1
    have a2 := RepL_ints h2
    subst a1 a2
    rw [List.length_map] at hl
    have heq := run_eqNest hT (w := w) (d := 9997) (Y := Y) hs hi' hm hl (by omega)
    refine ⟨.bool ((X == Y) == e), ?_, by rw [Rep_v]; exact ⟨rfl, rfl⟩⟩
    simp only [execOp, ho, e1, e2, Sem.run_bind, run_eqGuard_agg w op s x y _ _ hg, Result.andThen_ok]
    cases op <;> simp [isEq] at hop <;> subst hop
    · rw [run_eql_struct, heq]; simp
    · rw [run_neq_struct, heq]; simp
def nilD : D → Option Bool
  | .v (.pointer none) => some true
  | .pt _ _ => some false
  | _ => none
theorem opx_eqNil (hT : TabOk P T) {o : Oper} {N t : Nat} {st : St} {op : BinOp} {e : Bool} {s T2 : TypeId} {x y : Operand} {r : Bool} {i : TI} {E : Nat} (ho : o.op = .binOp op s x y T2) (hd : o.dst = some t) (ht : t < N)
    (hop : isEq op = some e) (hs : T.get s = some i) (hi' : i.desc = .pointer E) (hx : nilD (evD st x) = some r) (hy : evD st y = .v (.pointer none)) :
    OpX P o N (needOf st x ++ needOf st y) [(2 * t, some (.d (.v (.bool (r == e)))))] [] :=
  opx_val hd ht fun Γ g ac w S β Fs hi hn => by
    rw [Needs.append] at hn
    have h1 := hi.eval hn.1
    have h2 := hi.eval hn.2
    rw [hy, Rep_v] at h2
    have hu : P.underlying s = some (.pointer E) := by rw [(hT.get hs).1, hi']
    have hv : ∃ q, ac.eval x = .pointer q ∧ q.isNone = r := by
      generalize he : evD st x = dx at hx h1
      unfold nilD at hx
      split at hx
      · cases hx; rw [Rep_v] at h1; exact ⟨none, h1.1, rfl⟩
      · cases hx
        unfold Rep at h1
        obtain ⟨_, _, b, o', ys, h1, _⟩ := h1
        exact ⟨_, h1, rfl⟩
      · cases hx
    obtain ⟨q, e1, rfl⟩ := hv
    have heq : (Op.equalIn 10000 s (.pointer q) (.pointer none)).run P w = .ok q.isNone w := by
      rw [show (10000 : Nat) = 9999 + 1 from rfl]
      unfold Op.equalIn
      cases q <;> simp [run_underlying hu]
    refine ⟨.bool (q.isNone == e), ?_, by rw [Rep_v]; exact ⟨rfl, rfl⟩⟩
    have hg : (eqGuard op s x y (.pointer q) (.pointer none)).run P w = .ok () w := by
      unfold eqGuard; cases op <;> simp
    simp only [execOp, ho, e1, h2.1, Sem.run_bind, hg, Result.andThen_ok]
    cases op <;> simp [isEq] at hop <;> subst hop
    · simp [binOp, Op.equal, Op.maxDepth, heq]
    · simp [binOp, Op.equal, Op.maxDepth, heq]
end
end Go.Gx
namespace Go.Gx
section
variable {P : Program} {T : Tab} {o : Oper} {N t : Nat} {st : St}
theorem rep_part {w : World} {S : Nat → Prop} {β : Beta} {n off l h sz : Nat} {ds : List D} {aa : Option Addr} {cap : Nat} (hr : Rep w S (.sl n off ds) β (.slice aa n cap) []) (h1 : l ≤ h) (h2 : h ≤ n) :
    Rep w S (.sl (h - l) (off + l * sz) ds) β (.slice (if cap = l then aa else aa.map (·.add (l * sz))) (h - l) (cap - l)) [] := by
  unfold Rep at hr ⊢
  obtain ⟨_, hmn, a', cap', e, hc, q⟩ := hr
  cases e
  refine ⟨rfl, hmn, _, _, rfl, by omega, ?_⟩
  by_cases hz : h - l = 0
  · exact .inl hz
  · rcases q with q | ⟨b, o', ys, rfl, h3, h4, h5⟩
    · omega
    · rw [if_neg (by omega)]
      exact .inr ⟨b, o', ys, by simp [add_lit, Nat.add_assoc], h3, h4, h5⟩
theorem opx_sliceLH (hT : TabOk P T) {x lo hi' : Operand} {s E : TypeId} {i j : TI} {n off : Nat} {ds : List D} {d : D} {k1 k2 : IntKind} {e1 e2 : Int} (ho : o.op = .slice s x (some lo) (some hi') none) (hd : o.dst = some t) (ht : t < N)
    (hs : T.get s = some i) (he : i.desc = .slice E) (hj : T.get E = some j) (hx : evD st x = .sl n off ds) (hl : evD st lo = .v (.int k1 e1)) (hh : evD st hi' = .v (.int k2 e2)) (h0 : 0 ≤ e1) (h1 : e1 ≤ e2) (h2 : e2 ≤ (n : Int))
    (hsub : Sub (.sl (e2.toNat - e1.toNat) (off + e1.toNat * j.size) ds) d) :
    OpX P o N (needOf st x ++ (needOf st lo ++ needOf st hi')) [(2 * t, some (.d d))] [] :=
  opx_val hd ht fun Γ g a w S β Fs hi hn => by
    rw [Needs.append, Needs.append] at hn
    have q1 := hi.eval hn.1
    have q2 := hi.eval hn.2.1
    have q3 := hi.eval hn.2.2
    rw [hx] at q1
    rw [hl, Rep_v] at q2
    rw [hh, Rep_v] at q3
    have u := (hT.get hs).und w
    have sz := (hT.get hj).size w
    rw [he] at u
    obtain ⟨aa, cap, e, hc⟩ : ∃ aa cap, a.eval x = .slice aa n cap ∧ n ≤ cap := by
      have q := q1
      unfold Rep at q
      obtain ⟨_, _, aa, cap, e, hc, _⟩ := q
      exact ⟨aa, cap, e, hc⟩
    rw [e] at q1
    refine ⟨_, ?_, hsub _ _ _ _ _ (rep_part q1 (l := e1.toNat) (h := e2.toNat) (sz := j.size) (by omega) (by omega))⟩
    have hcap : e2 ≤ (cap : Int) := by omega
    have h02 : 0 ≤ e2 := by omega
    simp [execOp, ho, e, q2.1, q3.1, Instr.sliceAt, Instr.slice, Instr.sliceBounds, Instr.sliceBound, asIntOf, u, sz, h0, h02, hcap]
    intro hx; omega
theorem opx_sliceL (hT : TabOk P T) {x lo : Operand} {s E : TypeId} {i j : TI} {n off : Nat} {ds : List D} {d : D} {k1 : IntKind} {e1 : Int} (ho : o.op = .slice s x (some lo) none none) (hd : o.dst = some t) (ht : t < N)
    (hs : T.get s = some i) (he : i.desc = .slice E) (hj : T.get E = some j) (hx : evD st x = .sl n off ds) (hl : evD st lo = .v (.int k1 e1)) (h0 : 0 ≤ e1) (h1 : e1 ≤ (n : Int))
    (hsub : Sub (.sl (n - e1.toNat) (off + e1.toNat * j.size) ds) d) :
    OpX P o N (needOf st x ++ needOf st lo) [(2 * t, some (.d d))] [] :=
  opx_val hd ht fun Γ g a w S β Fs hi hn => by
    rw [Needs.append] at hn
    have q1 := hi.eval hn.1
    have q2 := hi.eval hn.2
    rw [hx] at q1
    rw [hl, Rep_v] at q2
    have u := (hT.get hs).und w
    have sz := (hT.get hj).size w
    rw [he] at u
    obtain ⟨aa, cap, e, hc⟩ : ∃ aa cap, a.eval x = .slice aa n cap ∧ n ≤ cap := by
      have q := q1
      unfold Rep at q
      obtain ⟨_, _, aa, cap, e, hc, _⟩ := q
      exact ⟨aa, cap, e, hc⟩
    rw [e] at q1
    refine ⟨_, ?_, hsub _ _ _ _ _ (rep_part q1 (l := e1.toNat) (h := n) (sz := j.size) (by omega) (by omega))⟩
    simp [execOp, ho, e, q2.1, Instr.sliceAt, Instr.slice, Instr.sliceBounds, Instr.sliceBound, asIntOf, u, sz, h0, h1]
theorem opx_sliceH (hT : TabOk P T) {x hi' : Operand} {s E : TypeId} {i j : TI} {n off : Nat} {ds : List D} {d : D} {k2 : IntKind} {e2 : Int} (ho : o.op = .slice s x none (some hi') none) (hd : o.dst = some t) (ht : t < N)
    (hs : T.get s = some i) (he : i.desc = .slice E) (hj : T.get E = some j) (hx : evD st x = .sl n off ds) (hh : evD st hi' = .v (.int k2 e2)) (h0 : 0 ≤ e2) (h2 : e2 ≤ (n : Int))
    (hsub : Sub (.sl e2.toNat off ds) d) :
    OpX P o N (needOf st x ++ needOf st hi') [(2 * t, some (.d d))] [] :=
  opx_val hd ht fun Γ g a w S β Fs hi hn => by
    rw [Needs.append] at hn
    have q1 := hi.eval hn.1
    have q3 := hi.eval hn.2
    rw [hx] at q1
    rw [hh, Rep_v] at q3
    have u := (hT.get hs).und w
    have sz := (hT.get hj).size w
    rw [he] at u
    obtain ⟨aa, cap, e, hc⟩ : ∃ aa cap, a.eval x = .slice aa n cap ∧ n ≤ cap := by
      have q := q1
      unfold Rep at q
      obtain ⟨_, _, aa, cap, e, hc, _⟩ := q
      exact ⟨aa, cap, e, hc⟩
    rw [e] at q1
    have h3 := rep_part q1 (l := 0) (h := e2.toNat) (sz := j.size) (by omega) (by omega)
    simp only [Nat.sub_zero, Nat.zero_mul, Nat.add_zero] at h3
    refine ⟨_, ?_, hsub _ _ _ _ _ h3⟩
    have hcap : e2 ≤ (cap : Int) := by omega
    simp [execOp, ho, e, q3.1, Instr.sliceAt, Instr.slice, Instr.sliceBounds, Instr.sliceBound, asIntOf, u, sz, h0, hcap]
theorem opx_sliceArr (hT : TabOk P T) {x : Operand} {s E : TypeId} {i j : TI} {n off : Nat} {ds : List D} {d : D} (ho : o.op = .slice s x none none none) (hd : o.dst = some t) (ht : t < N)
    (hs : T.get s = some i) (he : i.desc = .array n E) (hj : T.get E = some j) (hx : evD st x = .pt ds off) (hsub : Sub (.sl n off ds) d) :
    OpX P o N (needOf st x) [(2 * t, some (.d d))] [] :=
  opx_val hd ht fun Γ g a w S β Fs hi hn => by
    have q1 := hi.eval hn
    rw [hx] at q1
    have u := (hT.get hs).und w
    have sz := (hT.get hj).size w
    rw [he] at u
    unfold Rep at q1
    obtain ⟨_, hmn, b, o', ys, e, h3, h4, h5⟩ := q1
    refine ⟨.slice (some ⟨b, o' + off, .none⟩) n n, ?_, hsub _ _ _ _ _ (by unfold Rep; exact ⟨rfl, hmn, _, _, rfl, Nat.le_refl _, .inr ⟨b, o', ys, rfl, h3, h4, h5⟩⟩)⟩
    simp [execOp, ho, e, Instr.sliceAt, Instr.sureAddr, Instr.sliceBounds, u, sz, add_lit]
end
end Go.Gx
namespace Go.Gx
section
variable {P : Program} {o : Oper} {N t : Nat} {st : St} {T : Tab}
def dEq (P : Program) (T : Tab) (op : BinOp) (s : Nat) (d1 d2 : D) : Option (D × List Prop) :=
  match isEq op, T.get s with
  | some e, some i => match d1, d2, i.desc with
    | .v (.bool a), .v (.bool b), .bool => some (.v (.bool ((a == b) == e)), [])
    | .agg l, .agg l', .struct fs => match eqInts l l' with
      | some r => if intField T 0 fs.toList && Nat.beq l.length fs.size then some (.v (.bool (r == e)), [P.stoodInHeld s = false, P.eqGuardType P.depth s = false]) else none
      | none => none
    | .agg l, .agg l', .array 3 E => match eqInts l l' with
      | some r => if intT T E && Nat.beq l.length 3 then some (.v (.bool (r == e)), [P.eqGuardType P.depth s = false]) else none
      | none => none
    | .agg l, .agg l', .array n E => match nestOf T E, eqInts l l' with
      | some m, some r => if Nat.beq l.length (n * m) then some (.v (.bool (r == e)), [P.eqGuardType P.depth s = false]) else none
      | _, _ => none
    | x, .v (.pointer none), .pointer _ => match nilD x with
      | some r => some (.v (.bool (r == e)), [])
      | none => none
    | _, _, _ => none
  | _, _ => none
theorem opx_eq (hT : TabOk P T) {op : BinOp} {s T2 : TypeId} {x y : Operand} {d : D} {cs : List Prop} (ho : o.op = .binOp op s x y T2) (hd : o.dst = some t) (ht : t < N)
    (h : dEq P T op s (evD st x) (evD st y) = some (d, cs)) (hc : allP cs) : OpX P o N (needOf st x ++ needOf st y) [(2 * t, some (.d d))] [] := by
  unfold dEq at h
  split at h
  · rename_i e i hop hs
    split at h
    · rename_i a b hx hy hdsc
      cases h
      exact opx_eqBool hT ho hd ht hop hs hdsc hx hy
    · rename_i l l' fs hx hy hdsc
      split at h
      · rename_i r he
        split at h
        · rename_i hb
          cases h
          simp only [Bool.and_eq_true] at hb
          exact opx_eqStruct hT ho hd ht hop hs hdsc hx hy he hb.1 (Nat.eq_of_beq_eq_true hb.2) hc.1 hc.2.1
        · cases h
      · cases h
    · rename_i l l' E hx hy hdsc
      split at h
      · rename_i r he
        split at h
        · rename_i hb
          cases h
          simp only [Bool.and_eq_true] at hb
          exact opx_eqArr3 hT ho hd ht hop hs hdsc hx hy he hb.1 (Nat.eq_of_beq_eq_true hb.2) hc.1
        · cases h
      · cases h
    · rename_i l l' n E _ hx hy hdsc
      split at h
      · rename_i m r hm he
        split at h
        · rename_i hb
          cases h
          exact opx_eqNest hT ho hd ht hop hs hdsc hm hx hy he (Nat.eq_of_beq_eq_true hb) hc.1
        · cases h
      · cases h
    · rename_i E hy hdsc
      split at h
      · rename_i r hr
        cases h
        exact opx_eqNil hT ho hd ht hop hs hdsc hr hy
      · cases h
    · cases h
  · cases h
end
end Go.Gx
namespace Go.Gx
section
variable {P : Program} {T : Tab}
def intsD : List D → Option (List Int)
  | [] => some []
  | .v (.int .i64 n) :: l => (intsD l).map (n :: ·)
  | _ => none
theorem intsD_eq : ∀ {l : List D} {x : List Int}, intsD l = some x → l = x.map fun n => D.v (.int .i64 n)
  | [], x, h => by simp [intsD] at h; subst h; rfl
  | d :: l, x, h => by
    unfold intsD at h
    split at h
    · rename_i h1; cases h1
    · rename_i n l' h1
      cases h1
      obtain ⟨x', h2, rfl⟩ := Option.map_eq_some_iff.1 h
      rw [intsD_eq h2]; rfl
    · cases h
def intsA (x : List Int) : Value := .agg (x.map (Value.int .i64)).toArray
theorem intsV_map (x : List Int) : intsV (x.map (Value.int .i64)) = some x := by
  induction x with
  | nil => rfl
  | cons n x ih => simp [intsV, ih]
theorem keyD_agg {l : List D} {x : List Int} (h : intsD l = some x) : KeyD (.agg l) (intsA x) := fun w S β y F hr => by
  unfold Rep at hr
  obtain ⟨ys, rfl, h1⟩ := hr
  rw [intsD_eq h] at h1
  clear h
  have : ∀ {x : List Int} {ys : List Value} {F : List Nat}, RepL w S (x.map fun n => D.v (.int .i64 n)) β ys F → ys = x.map (Value.int .i64) ∧ F = [] := by
    intro x
    induction x with
    | nil => intro ys F h; unfold RepL at h; simpa using h
    | cons n x ih =>
      intro ys F h
      simp only [List.map_cons] at h
      unfold RepL at h
      obtain ⟨y1, ys', F1, F2, rfl, rfl, _, h1, h2⟩ := h
      rw [Rep_v] at h1
      obtain ⟨rfl, rfl⟩ := h1
      obtain ⟨rfl, rfl⟩ := ih h2
      exact ⟨rfl, rfl⟩
  obtain ⟨rfl, rfl⟩ := this h1
  exact ⟨rfl, rfl⟩
theorem eqIntsF (hT : TabOk P T) {w : World} (d : Nat) : ∀ (fs : List Field) (k : Nat) (x y : List Int) (px py : List Value), intField T k fs = true → px.length = k → py.length = k → x.length = fs.length → y.length = fs.length →
    (Op.eqFields (d + 1) (px ++ x.map (Value.int .i64)).toArray (py ++ y.map (Value.int .i64)).toArray fs).run P w = .ok (x == y) w
  | [], k, x, y, px, py, _, _, _, hx, hy => by
    obtain rfl := List.eq_nil_of_length_eq_zero (by simpa using hx)
    obtain rfl := List.eq_nil_of_length_eq_zero (by simpa using hy)
    simp [Op.eqFields]
  | f :: fs, k, [], y, px, py, hf, hpx, hpy, hx, hy => by simp at hx
  | f :: fs, k, x, [], px, py, hf, hpx, hpy, hx, hy => by simp at hy
  | f :: fs, k, a :: x, b :: y, px, py, hf, hpx, hpy, hx, hy => by
    simp only [intField, Bool.and_eq_true, bne_iff_ne, ne_eq] at hf
    obtain ⟨⟨⟨f1, f2⟩, f3⟩, f4⟩ := hf
    have f2 := Nat.eq_of_beq_eq_true f2
    split at f3
    · rename_i i hi
      split at f3
      · rename_i k' hk'
        have hu := (hT.get hi).1
        rw [hk'] at hu
        have hag : (isAgg f.type).run P w = .ok false w := by rw [isAgg_run hT hi, hk']; rfl
        have g1 : (px ++ Value.int .i64 a :: x.map (Value.int .i64)).toArray[f.offset]? = some (.int .i64 a) := by simp [f2, ← hpx]
        have g2 : (py ++ Value.int .i64 b :: y.map (Value.int .i64)).toArray[f.offset]? = some (.int .i64 b) := by simp [f2, ← hpy]
        have ih := eqIntsF hT (w := w) d fs (k + 1) x y (px ++ [.int .i64 a]) (py ++ [.int .i64 b]) f4 (by simp [hpx]) (by simp [hpy]) (by simpa using hx) (by simpa using hy)
        simp only [List.append_assoc, List.singleton_append] at ih
        simp only [List.map_cons, Op.eqFields, ne_eq, f1, not_false_eq_true, if_true, part, Sem.run_bind, hag, Result.andThen_ok, Bool.false_eq_true, if_false, g1, g2, Sem.run_pure, run_equalIn_int w d f.type .i64 k' a b hu]
        cases hab : a == b
        · have hne : a ≠ b := by simpa using hab
          have : ((a :: x) == (b :: y)) = false := by simp [hne]
          simp [this]
        · have he : a = b := by simpa using hab
          subst he
          have : ((a :: x) == (a :: y)) = (x == y) := by simp
          simp [ih, this]
      · cases f3
    · cases f3
theorem checkF (hT : TabOk P T) (e : Bool) (n : Nat) {w : World} : ∀ (fs : List Field) (k : Nat) (x : List Int) (px : List Value), intField T k fs = true → px.length = k → x.length = fs.length →
    ((forIn fs PUnit.unit fun f (_ : PUnit) => (do
      if f.name ≠ "_" then Instr.checkKey e (n + 1) f.type (← part f.type (px ++ x.map (Value.int .i64)).toArray f.offset)
      pure (.yield PUnit.unit) : Sem (ForInStep PUnit))) : Sem PUnit).run P w = .ok PUnit.unit w
  | [], k, x, px, _, _, hx => by simp
  | f :: fs, k, [], px, hf, hpx, hx => by simp at hx
  | f :: fs, k, a :: x, px, hf, hpx, hx => by
    simp only [intField, Bool.and_eq_true, bne_iff_ne, ne_eq] at hf
    obtain ⟨⟨⟨f1, f2⟩, f3⟩, f4⟩ := hf
    have f2 := Nat.eq_of_beq_eq_true f2
    split at f3
    · rename_i i hi
      split at f3
      · rename_i k' hk'
        have hu := (hT.get hi).1
        rw [hk'] at hu
        have hag : (isAgg f.type).run P w = .ok false w := by rw [isAgg_run hT hi, hk']; rfl
        have g1 : (px ++ Value.int .i64 a :: x.map (Value.int .i64)).toArray[f.offset]? = some (.int .i64 a) := by simp [f2, ← hpx]
        have ih := checkF hT e n (w := w) fs (k + 1) x (px ++ [.int .i64 a]) f4 (by simp [hpx]) (by simpa using hx)
        simp only [List.append_assoc, List.singleton_append] at ih
        have hc : (Instr.checkKey e (n + 1) f.type (.int .i64 a)).run P w = .ok () w := by
          unfold Instr.checkKey
          simp [run_underlying hu]
        simp only [List.map_cons, List.forIn_cons, ne_eq, f1, not_false_eq_true, if_true, part, Sem.run_bind, hag, Result.andThen_ok, Bool.false_eq_true, if_false, g1, Sem.run_pure, hc]
        exact ih
      · cases f3
    · cases f3
theorem ask_spec {kt : TypeId} {x : List Int} {fs : Array Field} (heq : ∀ (y : List Int) (w : World), y.length = x.length → (Op.equal kt (intsA x) (intsA y)).run P w = .ok (x == y) w) : ∀ (l : List MapEntry) (i : Nat) {r : Option Value}, fndV (.struct fs) (intsA x) (l.map kvOf) = some r →
    (r = none ∧ (∀ w, (Instr.findAsking kt (intsA x) l i).run P w = .ok none w) ∧ ∀ v, putV (.struct fs) (intsA x) v (l.map kvOf) = l.map kvOf ++ [(intsA x, v)]) ∨
    ∃ j e, r = some e.val ∧ (∀ w, (Instr.findAsking kt (intsA x) l i).run P w = .ok (some (i + j, e.val)) w) ∧ l[j]? = some e ∧ e.key = intsA x ∧ ∀ v, putV (.struct fs) (intsA x) v (l.map kvOf) = (l.modify j fun e => { e with key := intsA x, val := v }).map kvOf
  | [], i, r, h => by
    simp only [List.map_nil, fndV, Option.some.injEq] at h
    subst h
    exact .inl ⟨rfl, fun w => by simp [Instr.findAsking], fun v => rfl⟩
  | e :: es, i, r, h => by
    simp only [List.map_cons, fndV] at h
    have he : (kvOf e).1 = e.key := rfl
    rw [he] at h
    cases hs : sameK (.struct fs) (intsA x) e.key with
    | none => rw [hs] at h; cases h
    | some b =>
      rw [hs] at h
      have hy : ∃ y, e.key = intsA y ∧ y.length = x.length ∧ b = (x == y) := by
        cases hk : e.key with
        | agg bb =>
          rw [hk] at hs
          simp only [sameK, intsA, intsV_map] at hs
          cases h4 : intsV bb.toList with
          | none => rw [h4] at hs; cases hs
          | some y =>
            rw [h4] at hs
            dsimp only at hs
            split at hs
            · rename_i hl
              refine ⟨y, ?_, hl.symm, (Option.some.inj hs).symm⟩
              unfold intsA
              rw [← intsV_eq h4]
            · cases hs
        | _ => rw [hk] at hs; simp [sameK, intsA, Instr.sameNow] at hs
      obtain ⟨y, hy1, hy2, rfl⟩ := hy
      cases hb : x == y with
      | true =>
        rw [hb] at h hs
        simp only [Option.some.injEq] at h
        subst h
        have hxy : x = y := by simpa using hb
        refine .inr ⟨0, e, rfl, fun w => ?_, rfl, by rw [hy1, hxy], fun v => ?_⟩
        · simp [Instr.findAsking, hy1, heq y w hy2, hb]
        · simp only [List.map_cons, putV, he, hs, List.modify_cons, if_true]
          rfl
      | false =>
        rw [hb] at h hs
        rcases ask_spec heq es (i + 1) h with ⟨h1, h2, h3⟩ | ⟨j, e', h1, h2, h3, h4, h5⟩
        · refine .inl ⟨h1, fun w => ?_, fun v => ?_⟩
          · simp [Instr.findAsking, hy1, heq y w hy2, hb, h2]
          · simp only [List.map_cons, putV, he, hs, h3 v, List.cons_append]
        · refine .inr ⟨j + 1, e', h1, fun w => ?_, by simpa using h3, h4, fun v => ?_⟩
          · simp [Instr.findAsking, hy1, heq y w hy2, hb, h2]; omega
          · simp only [List.map_cons, putV, he, hs, h5 v, List.modify_succ_cons]
theorem zipSame (m : Nat) : ∀ x : List Int, ((x.map (Value.int .i64)).zip (x.map (Value.int .i64))).all (fun p => Instr.sameBits m p.1 p.2) = true
  | [] => rfl
  | n :: x => by
    simp only [List.map_cons, List.zip_cons_cons, List.all_cons, zipSame m x, Bool.and_true]
    simp [Instr.sameBits]
theorem keyAt_struct (hT : TabOk P T) {kt : TypeId} {i : TI} {fs : Array Field} {x : List Int} (hk : T.get kt = some i) (hd : i.desc = .struct fs) (hf : intField T 0 fs.toList = true) (hl : x.length = fs.size) (hp : P.stoodInHeld kt = false) :
    KeyAt P kt (.struct #[]) (intsA x) := by
  have u : P.underlying kt = some (.struct fs) := by rw [(hT.get hk).1, hd]
  have hfo : P.fieldsOf kt = fs := by unfold Program.fieldsOf; rw [u]
  refine ⟨fun e w => ?_, fun l r h => ?_, fun w => ?_⟩
  · have hc := checkF hT e 9998 (w := w) fs.toList 0 x [] hf rfl (by simpa using hl)
    simp only [List.nil_append] at hc
    rw [show (10000 : Nat) = 9999 + 1 from rfl]
    unfold Instr.checkKey
    simp only [Sem.run_bind, run_underlying u, Result.andThen_ok, intsA]
    rw [← Array.forIn_toList]
    simp only [Nat.reduceAdd] at hc
    rw [hc]; rfl
  · have heq : ∀ (y : List Int) (w : World), y.length = x.length → (Op.equal kt (intsA x) (intsA y)).run P w = .ok (x == y) w := fun y w hy => by
      unfold Op.equal
      show (Op.equalIn 10000 kt (intsA x) (intsA y)).run P w = _
      unfold intsA
      rw [show (10000 : Nat) = 9999 + 1 from rfl, run_equalIn_agg w 9999 kt _ _ (by rw [hfo]; exact u) hp, hfo]
      have := eqIntsF hT (w := w) 9998 fs.toList 0 x y [] [] hf rfl rfl (by simpa using hl) (by rw [hy]; simpa using hl)
      simpa using this
    have hw : ∀ w, (Instr.findKey kt (intsA x) l).run P w = (Instr.findAsking kt (intsA x) l).run P w := fun w => run_findKey_eq w (by rw [u]) _ _
    rcases ask_spec heq l 0 h with ⟨h1, h2, h3⟩ | ⟨j, e, h1, h2, h3⟩
    · exact .inl ⟨h1, fun w => by rw [hw, h2], h3⟩
    · rw [Nat.zero_add] at h2
      exact .inr ⟨j, e, h1, fun w => by rw [hw, h2], h3⟩
  · unfold Instr.keyThatStays
    have : Instr.sameBits 10000 (intsA x) (intsA x) = true := by
      rw [show (10000 : Nat) = 9999 + 1 from rfl]
      unfold intsA Instr.sameBits
      simp only [beq_self_eq_true, Bool.true_and]
      exact zipSame 9999 x
    simp [this]
end
end Go.Gx
namespace Go.Gx
inductive Orc where
  | none
  | val (d : D)
  | call (B : List Nat) (ρ : List (Nat × Nat)) (args : List D) (rout : List (Nat × Root)) (res : D)
  | app (mv : Bool)
  | inv (f : FuncId) (B : List Nat) (ρ : List (Nat × Nat)) (args : List D) (rout : List (Nat × Root)) (res : D)
def rhoOf (l : List (Nat × Nat)) (i : Nat) : Nat := match l.find? (·.1 == i) with
  | some p => p.2
  | none => i
structure Out where
  need : List (Nat × Ent)
  wr : Wr
  fresh : List Nat
  conds : List Prop
section
variable (P : Program) (T : Tab) (st : St)
def outV (need : List (Nat × Ent)) (t : Nat) (d : D) (cs : List Prop) : Orc → Option Out
  | .none => some ⟨need, [(2 * t, some (.d d))], [], cs⟩
  | .val d' => some ⟨need, [(2 * t, some (.d d'))], [], cs ++ [d = d']⟩
  | _ => none
def isNoneB {α : Type} : Option α → Bool
  | none => true
  | some _ => false
def sizeOK (j : TI) : Bool := decide (0 < j.size) && decide (j.zero.length = j.size) && oneAll j.zero && decide (j.bytes ≤ 512)
def neOpt : Option Nat → Option Nat → Bool
  | some k, some k' => k != k'
  | _, _ => true
def srcConds : Option Nat → D → List D → List Prop
  | none, .sl _ _ _, _ => []
  | none, _, news => [noFrL news = true]
  | some _, _, _ => []
def rinOf (st : St) (ρ : List (Nat × Nat)) : List (Nat × Nat) → Option (List (Nat × Root))
  | [] => some []
  | p :: l => match look st (2 * rhoOf ρ p.1 + 1), rinOf st ρ l with
    | some (.r x), some r => some ((p.1, x) :: r)
    | _, _ => none
def rbOf (st : St) : List Nat → Option (List (Nat × Root))
  | [] => some []
  | r :: l => match look st (2 * r + 1), rbOf st l with
    | some (.r x), some rs => some ((r, x) :: rs)
    | _, _ => none
def callOut (fop : Operand) (xs : Array Operand) (dst : Option Nat) (n : Nat) : Orc → Option Out
  | .call B ρ args rout res =>
    match fnOf (evD st fop), rinOf st ρ ρ, rbOf st B with
    | some (f, first, caps), some rin, some rB =>
      if rinB (rhoOf ρ) rin rout && (rin.all fun p => !B.contains (rhoOf ρ p.1)) && (res.men).isEmpty && flatT res && narrow res && (!isNoneB dst || (plc n res).2.isEmpty) then
        some ⟨needOf st fop ++ (needAll st xs.toList ++ (rinNeed (rhoOf ρ) rin ++ needRoots st B)), (match dst with | some t => [(2 * t, some (.d (plc n res).1))] | none => []) ++ (wrNew (plc n res).2 ++ wrRoots (rhoOf ρ) rin rout), freshFrom n (widthT res + 1),
          [CallOk P f, BorL (rootSt rB) B (rhoOf ρ) (first ++ (xs.toList.map (evD st) ++ caps)) args, FnC P f rin args rout res, B = [] ∨ (NoBor res ∧ NoBorRs rout)]⟩
      else none
    | _, _, _ => none
  | _ => none
def invOut (rcv : Operand) (name : String) (xs : Array Operand) (dst : Option Nat) (n : Nat) : Orc → Option Out
  | .inv f B ρ args rout res =>
    match evD st rcv, rinOf st ρ ρ, rbOf st B with
    | .ifc ty d, some rin, some rB =>
      if rinB (rhoOf ρ) rin rout && (rin.all fun p => !B.contains (rhoOf ρ p.1)) && (res.men).isEmpty && flatT res && narrow res && (!isNoneB dst || (plc n res).2.isEmpty) then
        some ⟨needOf st rcv ++ (needAll st xs.toList ++ (rinNeed (rhoOf ρ) rin ++ needRoots st B)), (match dst with | some t => [(2 * t, some (.d (plc n res).1))] | none => []) ++ (wrNew (plc n res).2 ++ wrRoots (rhoOf ρ) rin rout), freshFrom n (widthT res + 1),
          [methB P ty name f = true, CallOk P f, BorL (rootSt rB) B (rhoOf ρ) ([d] ++ (xs.toList.map (evD st) ++ [])) args, FnC P f rin args rout res, B = [] ∨ (NoBor res ∧ NoBorRs rout)]⟩
      else none
    | _, _, _ => none
  | _ => none
def nmR (t : Nat) : Nat := t + 1000
def stepOp (o : Oper) (orc : Orc) : Option Out :=
  match o.dst, o.op with
  | some t, .move x => outV (needOf st x) t (evD st x) [] orc
  | some t, .assign x => outV (needOf st x) t (evD st x) [] orc
  | some t, .pick c x y => match evD st c with
    | .v (.bool b) => outV (needOf st c ++ (needOf st x ++ needOf st y)) t (pickD b (evD st x) (evD st y)) [] orc
    | _ => none
  | some t, .nilCheck x =>
    if (evD st x).sure && hasRoots st (dRoot (evD st x)) then
      outV (needOf st x ++ needRoots st (dRoot (evD st x))) t (evD st x) [] orc else none
  | some t, .binOp op s x y _ => match dBin op (evD st x) (evD st y) with
    | some (d, cs) => outV (needOf st x ++ needOf st y) t d cs orc
    | none => match dEq P T op s (evD st x) (evD st y) with
      | some (d, cs) => outV (needOf st x ++ needOf st y) t d cs orc
      | none => none
  | some t, .unOp .not _ x => match evD st x with
    | .v (.bool b) => outV (needOf st x) t (.v (.bool (!b))) [] orc
    | _ => none
  | some t, .unOp .neg _ x => match evD st x with
    | .v (.int k n) => outV (needOf st x) t (.v (.int k (k.wrap (0 - n)))) [] orc
    | _ => none
  | some t, .convert s1 s2 x => match T.get s1, T.get s2, evD st x with
    | some _, some i2, .v (.int _ n) => match i2.desc with
      | .int k' => outV (needOf st x) t (.v (.int k' (k'.wrap n))) [] orc
      | _ => none
    | some i1, some i2, .v (.string b) => match i1.desc, i2.desc with
      | .string, .slice E => match T.get E with
        | some j => match j.desc with
          | .int .u8 => some ⟨needOf st x, [(2 * t, some (.d (.rs (nmR t) 0 b.size))), (2 * nmR t + 1, some (.r (.arr 1 (u8L (bytesI b)) [])))], [nmR t], []⟩
          | _ => none
        | none => none
      | _, _ => none
    | some i1, some i2, .rs r 0 n => match i1.desc, i2.desc, look st (2 * r + 1), orc with
      | .slice E, .string, some (.r (.arr sz cells _)), .val (.v (.string b)) => match T.get E with
        | some j => match j.desc with
          | .int .u8 => if sz = 1 then some ⟨needOf st x ++ needRoot st r, [(2 * t, some (.d (.v (.string b))))], [], [∃ l, bytesD cells = some l ∧ l.length = n ∧ strI l = b]⟩ else none
          | _ => none
        | none => none
      | _, _, _, _ => none
    | _, _, _ => none
  | some t, .fieldAddr s x f => match fieldOf T s f with
    | some fo => match dField fo (evD st x) with
      | some d => if hasRoots st (dRoot (evD st x)) then outV (needOf st x ++ needRoots st (dRoot (evD st x))) t d [] orc else none
      | none => none
    | none => none
  | some t, .field s x f => match fieldPt T s f, evD st x with
    | some (ft, off), .agg ds => match partOf T ft off ds with
      | some d => outV (needOf st x) t d [] orc
      | none => none
    | _, _ => none
  | some t, .index s x y => match T.get s, evD st x, evD st y with
    | some i, .agg ds, .v (.int _ n) => match i.desc with
      | .array len E => match T.get E with
        | some j => match orc with
          | .val d => some ⟨needOf st x ++ needOf st y, [(2 * t, some (.d d))], [], [0 ≤ n, n < (len : Int), partOf T E (n.toNat * j.size) ds = some d]⟩
          | _ => match partOf T E (n.toNat * j.size) ds with
            | some d => if decide (0 ≤ n) && decide (n < (len : Int)) then outV (needOf st x ++ needOf st y) t d [] orc else none
            | none => none
        | none => none
      | _ => none
    | _, _, _ => none
  | some t, .makeInterface s x => match T.get s with
    | some i => if notIface i.desc then outV (needOf st x) t (.ifc s (evD st x)) [] orc else none
    | none => none
  | some t, .indexAddr s x y => match elemSize T s with
    | some sz => match dIndex sz (evD st x) (evD st y) with
      | some (d, cs) => if hasRoots st (dRoot (evD st x)) then outV (needOf st x ++ (needOf st y ++ needRoots st (dRoot (evD st x)))) t d cs orc else none
      | none => none
    | none => match T.get s, evD st y with
      | some i, .v (.int _ n) => match i.desc with
        | .array len E => match T.get E with
          | some j => match dField (n.toNat * j.size) (evD st x) with
            | some d => match orc with
              | .val d' => if hasRoots st (dRoot (evD st x)) && decide (1 < len) then
                  some ⟨needOf st x ++ (needOf st y ++ needRoots st (dRoot (evD st x))), [(2 * t, some (.d d'))], [], [0 ≤ n, n < (len : Int), d = d']⟩ else none
              | _ => if hasRoots st (dRoot (evD st x)) && (decide (0 ≤ n) && (decide (n < (len : Int)) && decide (1 < len))) then outV (needOf st x ++ (needOf st y ++ needRoots st (dRoot (evD st x)))) t d [] orc else none
            | none => none
          | none => none
        | _ => none
      | _, _ => none
  | some t, .load s x => match T.get s, dSees st (evD st x) with
    | some i, some (ds, off, refs) =>
      if isAggD i.desc then
        match orc with
        | .none => if ((ds.drop off).take i.size).length == i.size && subRefs (menL ((ds.drop off).take i.size)) refs && noFrL ((ds.drop off).take i.size) then
            some ⟨needOf st x ++ needRoots st (dRoot (evD st x)), [(2 * t, some (.d (.agg ((ds.drop off).take i.size))))], [], []⟩ else none
        | .val (.agg ds') => if ds'.length == i.size && subRefs (menL ds') refs && noFrL ds' then
            some ⟨needOf st x ++ needRoots st (dRoot (evD st x)), [(2 * t, some (.d (.agg ds')))], [], [(ds.drop off).take i.size = ds']⟩ else none
        | _ => none
      else
        match orc with
        | .none => match ds[off]? with
          | some d => if subRefs d.men refs && d.noFr then some ⟨needOf st x ++ needRoots st (dRoot (evD st x)), [(2 * t, some (.d d))], [], []⟩ else none
          | none => none
        | .val d => if subRefs d.men refs && d.noFr then some ⟨needOf st x ++ needRoots st (dRoot (evD st x)), [(2 * t, some (.d d))], [], [ds[off]? = some d]⟩ else none
        | _ => none
    | _, _ => none
  | none, .store s x y => match T.get s, evD st x with
    | some i, .rp r off => match look st (2 * r + 1) with
      | some (.r (.arr sz cells refs)) =>
        if (dCells (evD st y)).all D.cellish && hasRoots st (menL (dCells (evD st y))) && (dCells (evD st y)).length == i.size then
          some ⟨needOf st x ++ (needOf st y ++ (needRoot st r ++ needRoots st (menL (dCells (evD st y))))),
            [(2 * r + 1, some (.r (.arr sz (cells.take off ++ dCells (evD st y) ++ cells.drop (off + i.size)) (refs ++ menL (dCells (evD st y))))))], [], [off + i.size ≤ cells.length]⟩
        else none
      | _ => none
    | _, _ => none
  | some t, .alloc E => match T.get E with
    | some i => if oneAll i.zero then some ⟨[], [(2 * t, some (.d (.rp (nmR t) 0))), (2 * nmR t + 1, some (.r (.arr 1 (i.zero.map D.v) [])))], [nmR t], []⟩ else none
    | none => none
  | some t, .box _ x =>
    if (dCells (evD st x)).all D.cellish && hasRoots st (menL (dCells (evD st x))) && !(menL (dCells (evD st x))).contains (nmR t) then
      some ⟨needOf st x ++ needRoots st (menL (dCells (evD st x))), [(2 * t, some (.d (.rp (nmR t) 0))), (2 * nmR t + 1, some (.r (.arr 1 (dCells (evD st x)) (menL (dCells (evD st x))))))], [nmR t], []⟩ else none
  | some t, .build s parts => match T.get s with
    | some i => match placeOf T i.desc with
      | some pl => match dFill pl (i.zero.map D.v) (partD st parts.toList) with
        | some cells => if oneAll i.zero && hasRoots st (partMen st parts.toList) && (parts.toList.all fun p => (dCells (evD st p.2)).all D.cellish) then
            outV (partNeed st parts.toList) t (.agg cells) [] orc else none
        | none => none
      | none => none
    | none => none
  | some t, .buildSlice s len parts => match T.get s with
    | some i => match i.desc with
      | .slice E => match T.get E with
        | some j => match dFill (fun q => some (q * j.size, j.size)) (repl len j.zero) (partD st parts.toList) with
          | some cells => if sizeOK j && decide (len * j.size ≤ 16777216) && hasRoots st (partMen st parts.toList) && (parts.toList.all fun p => (dCells (evD st p.2)).all D.cellish) && !(partMen st parts.toList).contains (nmR t) &&
              subRefs (menL cells) (partMen st parts.toList) then
              some ⟨partNeed st parts.toList, [(2 * t, some (.d (.rs (nmR t) 0 len))), (2 * nmR t + 1, some (.r (.arr j.size cells (partMen st parts.toList))))], [nmR t], []⟩ else none
          | none => none
        | none => none
      | _ => none
    | none => none
  | some t, .makeSlice s x y => match T.get s with
    | some i => match i.desc with
      | .slice E => match T.get E with
        | some j => match evD st x, evD st y with
          | .v (.int .i64 n), .v (.int .i64 c) => if sizeOK j then
              some ⟨needOf st x ++ needOf st y, [(2 * t, some (.d (.rs (nmR t) 0 n.toNat))), (2 * nmR t + 1, some (.r (.arr j.size (repl n.toNat j.zero) [])))], [nmR t], [0 ≤ n, n ≤ c, c ≤ (lim : Int)]⟩ else none
          | _, _ => none
        | none => none
      | _ => none
    | none => none
  | some t, .extract x ix => match evD st x with
    | .tup ds => match ds[ix]? with
      | some d => outV (needOf st x) t d [] orc
      | none => none
    | _ => none
  | some t, .makeFunc (.func f) first caps =>
    if first.isEmpty && (caps.toList.all fun x => hasRoots st (dRoot (evD st x)) && (match evD st x with | .rp _ _ => true | .pt _ _ => true | _ => false)) then
      outV (needAll st caps.toList ++ caps.toList.flatMap fun x => needRoots st (dRoot (evD st x))) t (.fn f (caps.toList.map (evD st))) [] orc
    else if caps.isEmpty && (first.toList.all fun x => hasRoots st (dRoot (evD st x)) && (match evD st x with | .rp _ _ => true | .pt _ _ => true | _ => false)) then
      outV (needAll st first.toList ++ first.toList.flatMap fun x => needRoots st (dRoot (evD st x))) t (.fm f (first.toList.map (evD st))) [] orc else none
  | some t, .slice s x none (some h) (some m) => match evD st x, evD st h, evD st m with
    | .rs r 0 n, .v (.int _ e1), .v (.int _ e2) => match T.get s with
      | some i => match i.desc with
        | .slice E => match T.get E with
          | some _ => if hasRoots st (dRoot (evD st x)) then
              some ⟨needOf st x ++ (needOf st h ++ (needOf st m ++ needRoots st (dRoot (evD st x)))), [(2 * t, some (.d (.rs r 0 n)))], [], [e1 = (n : Int), e2 = (n : Int)]⟩ else none
          | none => none
        | _ => none
      | none => none
    | _, _, _ => none
  | some t, .slice s x none (some h) none => match evD st x, evD st h with
    | .sl n off ds, .v (.int _ e1) => match T.get s with
      | some i => match i.desc with
        | .slice E => match T.get E with
          | some _ => match orc with
            | .val d => some ⟨needOf st x ++ needOf st h, [(2 * t, some (.d d))], [], [0 ≤ e1, e1 ≤ (n : Int), Sub (.sl e1.toNat off ds) d]⟩
            | _ => some ⟨needOf st x ++ needOf st h, [(2 * t, some (.d (.sl e1.toNat off ds)))], [], [0 ≤ e1, e1 ≤ (n : Int)]⟩
          | none => none
        | _ => none
      | none => none
    | _, _ => none
  | some t, .slice s x (some l) (some h) none => match T.get s, evD st x, evD st l, evD st h with
    | some i, .v (.string b), .v (.int _ e1), .v (.int _ e2) => match i.desc with
      | .string => outV (needOf st x ++ (needOf st l ++ needOf st h)) t (.v (.string (b.extract e1.toNat e2.toNat))) [0 ≤ e1, e1 ≤ e2, e2 ≤ (b.size : Int)] orc
      | _ => none
    | some i, .sl n off ds, .v (.int _ e1), .v (.int _ e2) => match i.desc, orc with
      | .slice E, .val d => match T.get E with
        | some j => some ⟨needOf st x ++ (needOf st l ++ needOf st h), [(2 * t, some (.d d))], [], [0 ≤ e1, e1 ≤ e2, e2 ≤ (n : Int), Sub (.sl (e2.toNat - e1.toNat) (off + e1.toNat * j.size) ds) d]⟩
        | none => none
      | _, _ => none
    | _, _, _, _ => none
  | some t, .slice s x (some l) none none => match T.get s, evD st x, evD st l, orc with
    | some i, .sl n off ds, .v (.int _ e1), .val d => match i.desc with
      | .slice E => match T.get E with
        | some j => some ⟨needOf st x ++ needOf st l, [(2 * t, some (.d d))], [], [0 ≤ e1, e1 ≤ (n : Int), Sub (.sl (n - e1.toNat) (off + e1.toNat * j.size) ds) d]⟩
        | none => none
      | _ => none
    | _, _, _, _ => none
  | some t, .slice s x none none none => match T.get s, evD st x, orc with
    | some i, .pt ds off, .val d => match i.desc with
      | .array n E => match T.get E with
        | some _ => some ⟨needOf st x, [(2 * t, some (.d d))], [], [Sub (.sl n off ds) d]⟩
        | none => none
      | _ => none
    | _, _, _ => none
  | some t, .makeMap _ none => some ⟨[], [(2 * t, some (.d (.rm (nmR t)))), (2 * nmR t + 1, some (.r (.mp [])))], [nmR t], []⟩
  | some t, .lookup s m k ok => match T.get s, evD st m, evD st k, orc with
    | some i, .bm es, .v kv, .val d => match i.desc with
      | .map kt et => match T.get kt, T.get et with
        | some ik, some ie => match ie.zero with
          | [z] => if keyB ik.desc kv then some ⟨needOf st m ++ needOf st k, [(2 * t, some (.d d))], [], [lookD ik.desc kv z ok es = some d, (P.info? et).bind (·.zero) = some z]⟩ else none
          | _ => none
        | _, _ => none
      | _ => none
    | some i, .bm es, .agg l, .val d => match i.desc, intsD l with
      | .map kt et, some x => match T.get kt, T.get et with
        | some ik, some ie => match ie.zero, ik.desc with
          | [z], .struct fs => if intField T 0 fs.toList && Nat.beq x.length fs.size then some ⟨needOf st m ++ needOf st k, [(2 * t, some (.d d))], [], [lookD (.struct #[]) (intsA x) z ok es = some d, (P.info? et).bind (·.zero) = some z, P.stoodInHeld kt = false]⟩ else none
          | _, _ => none
        | _, _ => none
      | _, _ => none
    | some i, .rm r, .agg l, .val d => match i.desc, intsD l, look st (2 * r + 1) with
      | .map kt et, some x, some (.r (.mp es)) => match T.get kt, T.get et with
        | some ik, some ie => match ie.zero, ik.desc with
          | [z], .struct fs => if intField T 0 fs.toList && Nat.beq x.length fs.size then some ⟨needOf st m ++ (needOf st k ++ needRoot st r), [(2 * t, some (.d d))], [], [lookD (.struct #[]) (intsA x) z ok es = some d, (P.info? et).bind (·.zero) = some z, P.stoodInHeld kt = false]⟩ else none
          | _, _ => none
        | _, _ => none
      | _, _, _ => none
    | some i, .rm r, .v kv, .val d => match i.desc, look st (2 * r + 1) with
      | .map kt et, some (.r (.mp es)) => match T.get kt, T.get et with
        | some ik, some ie => match ie.zero with
          | [z] => if keyB ik.desc kv then some ⟨needOf st m ++ (needOf st k ++ needRoot st r), [(2 * t, some (.d d))], [], [lookD ik.desc kv z ok es = some d, (P.info? et).bind (·.zero) = some z]⟩ else none
          | _ => none
        | _, _ => none
      | _, _ => none
    | _, _, _, _ => none
  | none, .mapUpdate s m k x => match T.get s, evD st m, evD st k, evD st x with
    | some i, .rm r, .agg l, .v xv => match i.desc, intsD l, look st (2 * r + 1) with
      | .map kt _, some ns, some (.r (.mp es)) => match T.get kt with
        | some ik => match ik.desc with
          | .struct fs => if intField T 0 fs.toList && Nat.beq ns.length fs.size then some ⟨needOf st m ++ (needOf st k ++ (needOf st x ++ needRoot st r)), [(2 * r + 1, some (.r (.mp (putV (.struct #[]) (intsA ns) xv es))))], [], [(fndV (.struct #[]) (intsA ns) es).isSome = true, P.stoodInHeld kt = false]⟩ else none
          | _ => none
        | none => none
      | _, _, _ => none
    | some i, .rm r, .v kv, .v xv => match i.desc, look st (2 * r + 1) with
      | .map kt _, some (.r (.mp es)) => match T.get kt with
        | some ik => if keyB ik.desc kv then some ⟨needOf st m ++ (needOf st k ++ (needOf st x ++ needRoot st r)), [(2 * r + 1, some (.r (.mp (putV ik.desc kv xv es))))], [], [(fndV ik.desc kv es).isSome = true]⟩ else none
        | none => none
      | _, _ => none
    | _, _, _, _ => none
  | some t, .call ⟨.builtin .len, xs, ts⟩ => match xs.toList, ts.toList with
    | [x], [s] => match T.get s, dLen (evD st x) with
      | some i, some n => if lenable i.desc (evD st x) && hasRoots st (dRoot (evD st x)) then outV (needOf st x ++ needRoots st (dRoot (evD st x))) t (.v (.int .i64 n)) [] orc else none
      | some i, none => match evD st x, i.desc with
        | .rm r, .map _ _ => match look st (2 * r + 1) with
          | some (.r (.mp es)) => outV (needOf st x ++ needRoot st r) t (.v (.int .i64 (es.length : Int))) [] orc
          | _ => none
        | _, _ => none
      | _, _ => none
    | _, _ => none
  | some t, .call ⟨.builtin .max, xs, _⟩ => match xs.toList with
    | [x, y] => match evD st x, evD st y with
      | .v (.int k m), .v (.int k' n) => if k = k' then outV (needOf st x ++ needOf st y) t (.v (.int k (if n > m then n else m))) [] orc else none
      | _, _ => none
    | _ => none
  | some t, .call ⟨.builtin .min, xs, _⟩ => match xs.toList with
    | [x, y] => match evD st x, evD st y with
      | .v (.int k m), .v (.int k' n) => if k = k' then outV (needOf st x ++ needOf st y) t (.v (.int k (if n < m then n else m))) [] orc else none
      | _, _ => none
    | _ => none
  | some t, .call ⟨.builtin .append, xs, ts⟩ => match orc, xs.toList, ts.toList with
    | .app mv, [x, y], [s, s'] => match T.get s with
      | some i => match i.desc with
        | .slice E => match T.get E with
          | some j => match appTo st j.size (evD st x), appSrc st j.size mv (evD st y) with
            | some (cells, refs, r, n), some (news, refs2, q, m) =>
              if s == s' && sizeOK j && !refs.contains (nmR t) && !refs2.contains (nmR t) && neOpt r q then
                some ⟨needOf st x ++ (needOf st y ++ (needRoots st (dRoot (evD st x)) ++ needRoots st (dRoot (evD st y)))),
                  [(2 * t, some (.d (.rs (nmR t) 0 (n + m)))), (2 * nmR t + 1, some (.r (.arr j.size (cells ++ news) (refs ++ refs2))))] ++ dropAll r q, [nmR t],
                  [cells.length = n * j.size, news.length = m * j.size, n + m ≤ lim] ++ srcConds q (evD st y) news⟩ else none
            | _, _ => none
          | none => none
        | _ => none
      | none => none
    | _, _, _ => none
  | dst, .call ⟨.value fop, xs, _⟩ => callOut P st fop xs dst (1000 * (dst.getD 0 + 2)) orc
  | dst, .call ⟨.invoke rcv name, xs, _⟩ => invOut P st rcv name xs dst (1000 * (dst.getD 0 + 2)) orc
  | _, _ => none
end
theorem allP_append : ∀ {l l' : List Prop}, allP (l ++ l') ↔ allP l ∧ allP l'
  | [], _ => by simp [allP]
  | p :: l, l' => by simp [allP, allP_append (l := l), and_assoc]
section
variable {P : Program} {T : Tab} {st : St} {o : Oper} {N t : Nat}
theorem outV_ok {need : List (Nat × Ent)} {d : D} {cs : List Prop} {orc : Orc} {out : Out} (h : outV need t d cs orc = some out) (hc : allP out.conds) (hx : allP cs → OpX P o N need [(2 * t, some (.d d))] []) : OpX P o N out.need out.wr out.fresh := by
  cases orc <;> simp [outV] at h
  · subst h; exact hx hc
  · subst h
    rw [allP_append] at hc
    obtain ⟨h1, h2, _⟩ := hc
    rw [← h2]; exact hx h1
end
end Go.Gx
namespace Go.Gx
section
variable {P : Program} {T : Tab} {st : St} {o : Oper} {N t : Nat}
theorem needs_parts {parts : List (Nat × Operand)} : Needs (look st) (partNeed st parts) := by
  unfold partNeed; rw [Needs.append]; exact ⟨needs_all, needs_roots⟩
theorem sizeOK_spec {j : TI} (h : sizeOK j = true) : 0 < j.size ∧ j.zero.length = j.size ∧ oneAll j.zero = true ∧ j.bytes ≤ 512 := by
  simp only [sizeOK, Bool.and_eq_true, decide_eq_true_eq] at h
  exact ⟨h.1.1.1, h.1.1.2, h.1.2, h.2⟩
theorem outV_need {need : List (Nat × Ent)} {d : D} {cs : List Prop} {orc : Orc} {out : Out} (h : outV need t d cs orc = some out) (hn : Needs (look st) need) : Needs (look st) out.need := by
  cases orc <;> simp [outV] at h <;> subst h <;> exact hn
theorem rinOf_need {ρ : List (Nat × Nat)} : ∀ {l : List (Nat × Nat)} {rin : List (Nat × Root)}, rinOf st ρ l = some rin → Needs (look st) (rinNeed (rhoOf ρ) rin)
  | [], rin, h => by simp only [rinOf, Option.some.injEq] at h; subst h; trivial
  | p :: l, rin, h => by
    simp only [rinOf] at h
    split at h
    · rename_i x r h1 h2
      cases h
      exact ⟨h1, rinOf_need h2⟩
    · cases h
theorem rbOf_look : ∀ {B : List Nat} {rB : List (Nat × Root)}, rbOf st B = some rB → ∀ r x, look (rootSt rB) (2 * r + 1) = some (.r x) → look st (2 * r + 1) = some (.r x)
  | [], rB, h, r, x, hx => by simp only [rbOf, Option.some.injEq] at h; subst h; cases hx
  | q :: l, rB, h, r, x, hx => by
    simp only [rbOf] at h
    split at h
    · rename_i x' rs h1 h2
      cases h
      have hx' : (if 2 * r + 1 = 2 * q + 1 then some (Ent.r x') else look (rootSt rs) (2 * r + 1)) = some (.r x) := hx
      by_cases e : r = q
      · subst e
        rw [if_pos rfl] at hx'; cases hx'; exact h1
      · rw [if_neg (by omega)] at hx'; exact rbOf_look h2 r x hx'
    · cases h
theorem rbOf_needs {B : List Nat} {rB : List (Nat × Root)} (h : rbOf st B = some rB) {g : X} : ∀ {l : List Nat}, Needs g (needRoots st l) → Needs g (needRoots (rootSt rB) l)
  | [], _ => trivial
  | r :: l, hn => by
    rw [needRoots, Needs.append] at hn ⊢
    refine ⟨?_, rbOf_needs h hn.2⟩
    unfold needRoot
    split
    · rename_i x hx
      have h1 := rbOf_look h r x hx
      have h2 := hn.1
      simp only [needRoot, h1, Needs] at h2
      exact h2
    · trivial
theorem rbOf_bor {B : List Nat} {rB : List (Nat × Root)} (h : rbOf st B = some rB) {ρ : Nat → Nat} {ds ds' : List D} (hb : BorL (rootSt rB) B ρ ds ds') : BorL st B ρ ds ds' :=
  fun Γ g a w S β Fs hi hn ys hr => hb Γ g a w S β Fs hi (rbOf_needs h hn) ys hr
theorem callOut_ok {fop : Operand} {xs : Array Operand} {ts : Array TypeId} {orc : Orc} {out : Out} {dst : Option Nat} {n : Nat} (hd : o.dst = dst) (hN : ∀ t, dst = some t → t < N) (hN0 : 0 < N) (ho : o.op = .call ⟨.value fop, xs, ts⟩)
    (h : callOut P st fop xs dst n orc = some out) (hc : allP out.conds) :
    OpX P o N out.need out.wr out.fresh ∧ Needs (look st) out.need := by
  unfold callOut at h
  split at h
  · rename_i B ρ args rout res
    split at h
    · rename_i f first caps rin rB hf hrin hrB
      split at h
      · rename_i hb
        cases h
        simp only [Bool.and_eq_true, List.isEmpty_iff] at hb
        obtain ⟨⟨⟨⟨⟨b1, b0⟩, b2⟩, b3⟩, b4⟩, b5⟩ := hb
        have b0 : ∀ p ∈ rin, rhoOf ρ p.1 ∉ B := fun p hp hm => by
          have := List.all_eq_true.1 b0 p hp
          simp at this; exact this hm
        obtain ⟨c1, c2, c3, c4, _⟩ := hc
        have c2 := rbOf_bor hrB c2
        refine ⟨?_, by rw [Needs.append, Needs.append, Needs.append]; exact ⟨needs_look, needs_all, rinOf_need hrin, needs_roots⟩⟩
        cases hdd : dst with
        | some t =>
          have := opx_callB (t := t) (n := n) ho (by left; rw [hd, hdd]) (hN t hdd) hf c1 c2 c3 b1 b0 b2 b3 b4 c4
          rw [hd, hdd] at this
          exact this
        | none =>
          rw [hdd] at b5
          have := opx_callB (t := 0) (n := n) ho (by right; rw [hd, hdd]; exact ⟨rfl, by simpa [isNoneB] using b5⟩) hN0 hf c1 c2 c3 b1 b0 b2 b3 b4 c4
          rw [hd, hdd] at this
          exact this
      · cases h
    · cases h
  · cases h
theorem invOut_ok {rcv : Operand} {name : String} {xs : Array Operand} {ts : Array TypeId} {orc : Orc} {out : Out} {dst : Option Nat} {n : Nat} (hd : o.dst = dst) (hN : ∀ t, dst = some t → t < N) (hN0 : 0 < N) (ho : o.op = .call ⟨.invoke rcv name, xs, ts⟩)
    (h : invOut P st rcv name xs dst n orc = some out) (hc : allP out.conds) :
    OpX P o N out.need out.wr out.fresh ∧ Needs (look st) out.need := by
  unfold invOut at h
  split at h
  · rename_i f B ρ args rout res
    split at h
    · rename_i ty d rin rB hf hrin hrB
      split at h
      · rename_i hb
        cases h
        simp only [Bool.and_eq_true, List.isEmpty_iff] at hb
        obtain ⟨⟨⟨⟨⟨b1, b0⟩, b2⟩, b3⟩, b4⟩, b5⟩ := hb
        have b0 : ∀ p ∈ rin, rhoOf ρ p.1 ∉ B := fun p hp hm => by
          have := List.all_eq_true.1 b0 p hp
          simp at this; exact this hm
        obtain ⟨c0, c1, c2, c3, c4, _⟩ := hc
        have c2 := rbOf_bor hrB c2
        refine ⟨?_, by rw [Needs.append, Needs.append, Needs.append]; exact ⟨needs_look, needs_all, rinOf_need hrin, needs_roots⟩⟩
        cases hdd : dst with
        | some t =>
          have := opx_invoke (t := t) (n := n) ho (by left; rw [hd, hdd]) (hN t hdd) hf c0 c1 c2 c3 b1 b0 b2 b3 b4 c4
          rw [hd, hdd] at this
          exact this
        | none =>
          rw [hdd] at b5
          have := opx_invoke (t := 0) (n := n) ho (by right; rw [hd, hdd]; exact ⟨rfl, by simpa [isNoneB] using b5⟩) hN0 hf c0 c1 c2 c3 b1 b0 b2 b3 b4 c4
          rw [hd, hdd] at this
          exact this
      · cases h
    · cases h
  · cases h
theorem stepOp_ok (hT : TabOk P T) {orc : Orc} {out : Out} (hN : ∀ t, o.dst = some t → t < N) (hN0 : 0 < N) (h : stepOp P T st o orc = some out) (hc : allP out.conds) :
    OpX P o N out.need out.wr out.fresh ∧ Needs (look st) out.need := by
  unfold stepOp at h
  split at h
  · -- move
    rename_i t x hd hop
    exact ⟨outV_ok h hc fun _ => opx_move (.inl hop) hd (hN t hd), outV_need h needs_look⟩
  · rename_i t x hd hop
    exact ⟨outV_ok h hc fun _ => opx_move (.inr hop) hd (hN t hd), outV_need h needs_look⟩
  · rename_i t c x y hd hop
    split at h
    · rename_i b hb
      exact ⟨outV_ok h hc fun _ => opx_pick hop hd (hN t hd) hb, outV_need h (by simp only [Needs.append]; exact ⟨needs_look, needs_look, needs_look⟩)⟩
    · cases h
  · rename_i t x hd hop
    split at h
    · rename_i hb
      simp only [Bool.and_eq_true] at hb
      exact ⟨outV_ok h hc fun _ => opx_nilCheck hop hd (hN t hd) hb.2 hb.1, outV_need h (by rw [Needs.append]; exact ⟨needs_look, needs_roots⟩)⟩
    · cases h
  · rename_i t op s x y _ hd hop
    split at h
    · rename_i d cs hb
      exact ⟨outV_ok h hc fun hcs => opx_bin hop hd (hN t hd) hb hcs, outV_need h (by rw [Needs.append]; exact ⟨needs_look, needs_look⟩)⟩
    · split at h
      · rename_i d cs hb
        exact ⟨outV_ok h hc fun hcs => opx_eq hT hop hd (hN t hd) hb hcs, outV_need h (by rw [Needs.append]; exact ⟨needs_look, needs_look⟩)⟩
      · cases h
  · rename_i t _ x hd hop
    split at h
    · rename_i b hb
      exact ⟨outV_ok h hc fun _ => opx_not hop hd (hN t hd) hb, outV_need h needs_look⟩
    · cases h
  · rename_i t _ x hd hop
    split at h
    · rename_i k n hb
      exact ⟨outV_ok h hc fun _ => opx_neg hop hd (hN t hd) hb, outV_need h needs_look⟩
    · cases h
  · rename_i t s1 s2 x hd hop
    split at h
    · rename_i i1 i2 k n h1 h2 hx
      split at h
      · rename_i k' hk
        exact ⟨outV_ok h hc fun _ => opx_convInt hT hop hd (hN t hd) h1 h2 hk hx, outV_need h needs_look⟩
      · cases h
    · rename_i i1 i2 b h1 h2 hx
      split at h
      · rename_i E k1 k2
        split at h
        · rename_i j hj
          split at h
          · rename_i hu
            cases h
            exact ⟨opx_bytesOf hT hop hd (hN t hd) h1 h2 k1 k2 hj hu hx, needs_look⟩
          · cases h
        · cases h
      · cases h
    · rename_i i1 i2 r n h1 h2 hx
      split at h
      · rename_i E sz cells refs b k1 k2 hl
        split at h
        · rename_i j hj
          split at h
          · rename_i hu
            split at h
            · rename_i hsz
              subst hsz
              cases h
              obtain ⟨⟨l, c1, c2, c3⟩, _⟩ := hc
              subst c3
              exact ⟨opx_strOf hT hop hd (hN t hd) h1 h2 k1 k2 hj hu hx hl c1 c2, by rw [Needs.append]; exact ⟨needs_look, needs_root⟩⟩
            · cases h
          · cases h
        · cases h
      · cases h
    · cases h
  · rename_i t s x f hd hop
    split at h
    · rename_i fo hf
      split at h
      · rename_i d hdd
        split at h
        · rename_i hr
          exact ⟨outV_ok h hc fun _ => opx_fieldAddr hT hop hd (hN t hd) hf hdd hr, outV_need h (by rw [Needs.append]; exact ⟨needs_look, needs_roots⟩)⟩
        · cases h
      · cases h
    · cases h
  · rename_i t s x f hd hop
    split at h
    · rename_i ft off ds hf hx
      split at h
      · rename_i d hdd
        exact ⟨outV_ok h hc fun _ => opx_field hT hop hd (hN t hd) hf hx hdd, outV_need h needs_look⟩
      · cases h
    · cases h
  · rename_i t s x y hd hop
    split at h
    · rename_i i ds k n hs hx hy
      split at h
      · rename_i len E hi
        split at h
        · rename_i j hj
          split at h
          · cases h
            obtain ⟨c1, c2, c3, _⟩ := hc
            exact ⟨opx_indexArr hT hop hd (hN t hd) hs hi hj hx hy c1 c2 c3, by rw [Needs.append]; exact ⟨needs_look, needs_look⟩⟩
          split at h
          · rename_i d hdd
            split at h
            · rename_i hb
              simp only [Bool.and_eq_true, decide_eq_true_eq] at hb
              exact ⟨outV_ok h hc fun _ => opx_indexArr hT hop hd (hN t hd) hs hi hj hx hy hb.1 hb.2 hdd, outV_need h (by rw [Needs.append]; exact ⟨needs_look, needs_look⟩)⟩
            · cases h
          · cases h
        · cases h
      · cases h
    · cases h
  · rename_i t s x hd hop
    split at h
    · rename_i i hs
      split at h
      · rename_i hb
        exact ⟨outV_ok h hc fun _ => opx_makeIface hT hop hd (hN t hd) hs hb, outV_need h needs_look⟩
      · cases h
    · cases h
  · rename_i t s x y hd hop
    split at h
    · rename_i sz hf
      split at h
      · rename_i d cs hdd
        split at h
        · rename_i hr
          exact ⟨outV_ok h hc fun hcs => opx_index hT hop hd (hN t hd) hf hdd hcs hr, outV_need h (by simp only [Needs.append]; exact ⟨needs_look, needs_look, needs_roots⟩)⟩
        · cases h
      · cases h
    · split at h
      · rename_i i k n hs hy
        split at h
        · rename_i len E hdsc
          split at h
          · rename_i j hE
            split at h
            · rename_i d hdd
              split at h
              · split at h
                · rename_i hb
                  cases h
                  simp only [Bool.and_eq_true, decide_eq_true_eq] at hb
                  obtain ⟨c1, c2, c3, _⟩ := hc
                  subst c3
                  exact ⟨opx_addrArr hT hop hd (hN t hd) hs hdsc hE hy c1 c2 hb.2 hdd hb.1, by simp only [Needs.append]; exact ⟨needs_look, needs_look, needs_roots⟩⟩
                · cases h
              split at h
              · rename_i hb
                simp only [Bool.and_eq_true, decide_eq_true_eq] at hb
                exact ⟨outV_ok h hc fun _ => opx_addrArr hT hop hd (hN t hd) hs hdsc hE hy hb.2.1 hb.2.2.1 hb.2.2.2 hdd hb.1, outV_need h (by simp only [Needs.append]; exact ⟨needs_look, needs_look, needs_roots⟩)⟩
              · cases h
            · cases h
          · cases h
        · cases h
      · cases h
  · rename_i t s x hd hop
    have hn : Needs (look st) (needOf st x ++ needRoots st (dRoot (evD st x))) := by rw [Needs.append]; exact ⟨needs_look, needs_roots⟩
    split at h
    · rename_i i ds off refs hi hs
      split at h
      · rename_i ha
        split at h
        · split at h
          · rename_i hb
            cases h
            simp only [Bool.and_eq_true, beq_iff_eq] at hb
            exact ⟨opx_loadAgg hT hop hd (hN t hd) hi ha hs rfl hb.1.1 hb.1.2 hb.2, hn⟩
          · cases h
        · split at h
          · rename_i ds' hb
            cases h
            simp only [Bool.and_eq_true, beq_iff_eq] at hb
            exact ⟨opx_loadAgg hT hop hd (hN t hd) hi ha hs hc.1 hb.1.1 hb.1.2 hb.2, hn⟩
          · cases h
        · cases h
      · rename_i ha
        have ha' : isAggD i.desc = false := by simpa using ha
        split at h
        · split at h
          · rename_i d hdd
            split at h
            · rename_i hb
              cases h
              simp only [Bool.and_eq_true] at hb
              exact ⟨opx_load hT hop hd (hN t hd) hi ha' hs hdd hb.1 hb.2, hn⟩
            · cases h
          · cases h
        · split at h
          · rename_i d hb
            cases h
            simp only [Bool.and_eq_true] at hb
            exact ⟨opx_load hT hop hd (hN t hd) hi ha' hs hc.1 hb.1 hb.2, hn⟩
          · cases h
        · cases h
    · cases h
  · rename_i s x y hd hop
    split at h
    · rename_i i r off hi hx
      split at h
      · rename_i sz cells refs hl
        split at h
        · rename_i hb
          cases h
          simp only [Bool.and_eq_true, beq_iff_eq] at hb
          exact ⟨opx_store hT hop hd hi hx hl hb.1.1 hb.1.2 hb.2 hc.1, by simp only [Needs.append]; exact ⟨needs_look, needs_look, needs_root, needs_roots⟩⟩
        · cases h
      · cases h
    · cases h
  · rename_i t E hd hop
    split at h
    · rename_i i hi
      split at h
      · rename_i h1
        cases h
        exact ⟨opx_alloc hT hop hd (hN t hd) hi h1, trivial⟩
      · cases h
    · cases h
  · rename_i t E x hd hop
    split at h
    · rename_i hb
      cases h
      simp only [Bool.and_eq_true, Bool.not_eq_true'] at hb
      exact ⟨opx_box hop hd (hN t hd) hb.1.1 hb.1.2 hb.2, by rw [Needs.append]; exact ⟨needs_look, needs_roots⟩⟩
    · cases h
  · rename_i t s parts hd hop
    split at h
    · rename_i i hi
      split at h
      · rename_i pl hp
        split at h
        · rename_i cells hf
          split at h
          · rename_i hb
            simp only [Bool.and_eq_true] at hb
            exact ⟨outV_ok h hc fun _ => opx_build hT hop hd (hN t hd) hi hp hb.1.1 hb.1.2 hb.2 hf, outV_need h needs_parts⟩
          · cases h
        · cases h
      · cases h
    · cases h
  · rename_i t s len parts hd hop
    split at h
    · rename_i i hi
      split at h
      · rename_i E he
        split at h
        · rename_i j hj
          split at h
          · rename_i cells hf
            split at h
            · rename_i hb
              cases h
              simp only [Bool.and_eq_true, Bool.not_eq_true', decide_eq_true_eq] at hb
              obtain ⟨⟨⟨⟨⟨b1, b2⟩, b3⟩, b4⟩, b5⟩, b6⟩ := hb
              obtain ⟨s1, s2, s3, _⟩ := sizeOK_spec b1
              exact ⟨opx_buildSlice hT hop hd (hN t hd) hi he hj s2 s3 s1 b2 b3 b4 hf b5 b6, needs_parts⟩
            · cases h
          · cases h
        · cases h
      · cases h
    · cases h
  · rename_i t s x y hd hop
    split at h
    · rename_i i hi
      split at h
      · rename_i E he
        split at h
        · rename_i j hj
          split at h
          · rename_i n c hx hy
            split at h
            · rename_i hb
              cases h
              obtain ⟨s1, s2, s3, s4⟩ := sizeOK_spec hb
              obtain ⟨c1, c2, c3, _⟩ := hc
              have c3' : c ≤ 274877906944 := c3
              refine ⟨opx_make hT hop hd (hN t hd) hi he hj s2 s3 s1 hx hy c1 c2 (by omega) ?_, by rw [Needs.append]; exact ⟨needs_look, needs_look⟩⟩
              have h1 : (j.bytes : Int) ≤ 512 := by omega
              calc (j.bytes : Int) * c ≤ 512 * c := Int.mul_le_mul_of_nonneg_right h1 (by omega)
                _ ≤ 281474976710656 := by omega
            · cases h
          · cases h
        · cases h
      · cases h
    · cases h
  · rename_i t x ix hd hop
    split at h
    · rename_i ds hx
      split at h
      · rename_i d hdd
        exact ⟨outV_ok h hc fun _ => opx_extract hop hd (hN t hd) hx hdd, outV_need h needs_look⟩
      · cases h
    · cases h
  · rename_i t f first caps hd hop
    have hfl : ∀ l : List Operand, Needs (look st) (l.flatMap fun x => needRoots st (dRoot (evD st x))) := fun l => by
      induction l with
      | nil => trivial
      | cons x l ih => rw [List.flatMap_cons, Needs.append]; exact ⟨needs_roots, ih⟩
    split at h
    · rename_i hb
      simp only [Bool.and_eq_true, List.all_eq_true] at hb
      have hfe : first = #[] := by simpa [Array.isEmpty_iff] using hb.1
      subst hfe
      refine ⟨outV_ok h hc fun _ => opx_makeFunc hop hd (hN t hd) (fun x hx => (hb.2 x hx).1) (fun x hx => (hb.2 x hx).2), outV_need h ?_⟩
      rw [Needs.append]
      exact ⟨needs_all, hfl _⟩
    · split at h
      · rename_i hb
        simp only [Bool.and_eq_true, List.all_eq_true] at hb
        have hfe : caps = #[] := by simpa [Array.isEmpty_iff] using hb.1
        subst hfe
        refine ⟨outV_ok h hc fun _ => opx_makeMeth hop hd (hN t hd) (fun x hx => (hb.2 x hx).1) (fun x hx => (hb.2 x hx).2), outV_need h ?_⟩
        rw [Needs.append]
        exact ⟨needs_all, hfl _⟩
      · cases h
  · rename_i t s x hh m hd hop
    split at h
    · rename_i r n k1 e1 k2 e2 hx h1 h2
      split at h
      · rename_i i hi
        split at h
        · rename_i E he
          split at h
          · rename_i j hj
            split at h
            · rename_i hb
              cases h
              obtain ⟨c1, c2, _⟩ := hc
              exact ⟨opx_sliceRs hT hop hd (hN t hd) hi he hj hx h1 h2 c1 c2 hb, by rw [Needs.append, Needs.append, Needs.append]; exact ⟨needs_look, needs_look, needs_look, needs_roots⟩⟩
            · cases h
          · cases h
        · cases h
      · cases h
    · cases h
  · rename_i t s x hh hd hop
    split at h
    · rename_i n off ds k1 e1 hx h1
      split at h
      · rename_i i hi
        split at h
        · rename_i E he
          split at h
          · rename_i j hj
            split at h
            · cases h
              obtain ⟨c1, c2, c3, _⟩ := hc
              exact ⟨opx_sliceH hT hop hd (hN t hd) hi he hj hx h1 c1 c2 c3, by rw [Needs.append]; exact ⟨needs_look, needs_look⟩⟩
            cases h
            obtain ⟨c1, c2, _⟩ := hc
            exact ⟨opx_sliceSl hT hop hd (hN t hd) hi he hj hx h1 c1 c2, by rw [Needs.append]; exact ⟨needs_look, needs_look⟩⟩
          · cases h
        · cases h
      · cases h
    · cases h
  · rename_i t s x l hh hd hop
    split at h
    · rename_i i b k1 e1 k2 e2 hi hx h1 h2
      split at h
      · rename_i he
        exact ⟨outV_ok h hc fun hcs => opx_sliceStr hT hop hd (hN t hd) hi he hx h1 h2 hcs.1 hcs.2.1 hcs.2.2.1, outV_need h (by simp only [Needs.append]; exact ⟨needs_look, needs_look, needs_look⟩)⟩
      · cases h
    · rename_i i n off ds k1 e1 k2 e2 hi hx h1 h2
      split at h
      · rename_i E d he
        split at h
        · rename_i j hj
          cases h
          obtain ⟨c1, c2, c3, c4, _⟩ := hc
          exact ⟨opx_sliceLH hT hop hd (hN t hd) hi he hj hx h1 h2 c1 c2 c3 c4, by simp only [Needs.append]; exact ⟨needs_look, needs_look, needs_look⟩⟩
        · cases h
      · cases h
    · cases h
  · rename_i t s x l hd hop
    split at h
    · rename_i i n off ds k1 e1 d hi hx h1
      split at h
      · rename_i E he
        split at h
        · rename_i j hj
          cases h
          obtain ⟨c1, c2, c3, _⟩ := hc
          exact ⟨opx_sliceL hT hop hd (hN t hd) hi he hj hx h1 c1 c2 c3, by simp only [Needs.append]; exact ⟨needs_look, needs_look⟩⟩
        · cases h
      · cases h
    · cases h
  · rename_i t s x hd hop
    split at h
    · rename_i i ds off d hi hx
      split at h
      · rename_i n E he
        split at h
        · rename_i j hj
          cases h
          exact ⟨opx_sliceArr hT hop hd (hN t hd) hi he hj hx hc.1, needs_look⟩
        · cases h
      · cases h
    · cases h
  · rename_i t _ hd hop
    cases h
    exact ⟨opx_makeMap hop hd (hN t hd), trivial⟩
  · rename_i t s m k ok hd hop
    split at h
    · rename_i i es kv d hi hx hy
      split at h
      · rename_i kt et hm
        split at h
        · rename_i ik ie hk he
          split at h
          · rename_i z hz
            split at h
            · rename_i hb
              cases h
              obtain ⟨c1, c2, _⟩ := hc
              exact ⟨opx_lookupB hT hop hd (hN t hd) hi hm (keyAt_plain hT hk hb) hx hy (keyD_v _) c2 c1, by rw [Needs.append]; exact ⟨needs_look, needs_look⟩⟩
            · cases h
          · cases h
        · cases h
      · cases h
    · rename_i i es l d hi hx hy
      split at h
      · rename_i kt et x hm hl
        split at h
        · rename_i ik ie hk he
          split at h
          · rename_i z fs hz hfs
            split at h
            · rename_i hb
              cases h
              simp only [Bool.and_eq_true] at hb
              obtain ⟨c1, c2, c3, _⟩ := hc
              exact ⟨opx_lookupB hT hop hd (hN t hd) hi hm (keyAt_struct hT hk hfs hb.1 (Nat.eq_of_beq_eq_true hb.2) c3) hx hy (keyD_agg hl) c2 c1, by rw [Needs.append]; exact ⟨needs_look, needs_look⟩⟩
            · cases h
          · cases h
        · cases h
      · cases h
    · rename_i i r l d hi hx hy
      split at h
      · rename_i kt et x es hm hl hr
        split at h
        · rename_i ik ie hk he
          split at h
          · rename_i z fs hz hfs
            split at h
            · rename_i hb
              cases h
              simp only [Bool.and_eq_true] at hb
              obtain ⟨c1, c2, c3, _⟩ := hc
              exact ⟨opx_lookup hT hop hd (hN t hd) hi hm (keyAt_struct hT hk hfs hb.1 (Nat.eq_of_beq_eq_true hb.2) c3) hx hy (keyD_agg hl) hr c2 c1, by simp only [Needs.append]; exact ⟨needs_look, needs_look, needs_root⟩⟩
            · cases h
          · cases h
        · cases h
      · cases h
    · rename_i i r kv d hi hx hy
      split at h
      · rename_i kt et es hm hr
        split at h
        · rename_i ik ie hk he
          split at h
          · rename_i z hz
            split at h
            · rename_i hb
              cases h
              obtain ⟨c1, c2, _⟩ := hc
              exact ⟨opx_lookup hT hop hd (hN t hd) hi hm (keyAt_plain hT hk hb) hx hy (keyD_v _) hr c2 c1, by simp only [Needs.append]; exact ⟨needs_look, needs_look, needs_root⟩⟩
            · cases h
          · cases h
        · cases h
      · cases h
    · cases h
  · rename_i s m k x hd hop
    split at h
    · rename_i i r l xv hi hx hy hv
      split at h
      · rename_i kt et ns es hm hl hr
        split at h
        · rename_i ik hk
          split at h
          · rename_i fs hfs
            split at h
            · rename_i hb
              cases h
              simp only [Bool.and_eq_true] at hb
              exact ⟨opx_mapUpdate hT hop hd hi hm (keyAt_struct hT hk hfs hb.1 (Nat.eq_of_beq_eq_true hb.2) hc.2.1) hx hy (keyD_agg hl) hv hr hc.1, by simp only [Needs.append]; exact ⟨needs_look, needs_look, needs_look, needs_root⟩⟩
            · cases h
          · cases h
        · cases h
      · cases h
    · rename_i i r kv xv hi hx hy hv
      split at h
      · rename_i kt et es hm hr
        split at h
        · rename_i ik hk
          split at h
          · rename_i hb
            cases h
            exact ⟨opx_mapUpdate hT hop hd hi hm (keyAt_plain hT hk hb) hx hy (keyD_v _) hv hr hc.1, by simp only [Needs.append]; exact ⟨needs_look, needs_look, needs_look, needs_root⟩⟩
          · cases h
        · cases h
      · cases h
    · cases h
  · rename_i t xs ts hd hop
    split at h
    · rename_i x s hx hs
      have e1 : xs = #[x] := by apply Array.ext'; simpa using hx
      have e2 : ts = #[s] := by apply Array.ext'; simpa using hs
      subst e1 e2
      split at h
      · rename_i i n hi hl
        split at h
        · rename_i hb
          simp only [Bool.and_eq_true] at hb
          exact ⟨outV_ok h hc fun _ => opx_len hT hop hd (hN t hd) hi hb.1 hl hb.2, outV_need h (by rw [Needs.append]; exact ⟨needs_look, needs_roots⟩)⟩
        · cases h
      · rename_i i hi hl
        split at h
        · rename_i r kt et hx' hm
          split at h
          · rename_i es hr
            exact ⟨outV_ok h hc fun _ => opx_lenMap hT hop hd (hN t hd) hi hm hx' hr, outV_need h (by rw [Needs.append]; exact ⟨needs_look, needs_root⟩)⟩
          · cases h
        · cases h
      · cases h
    · cases h
  · rename_i t xs _ hd hop
    split at h
    · rename_i x y hx
      split at h
      · rename_i k m k' n h1 h2
        split at h
        · rename_i hk
          subst hk
          have e1 : xs = #[x, y] := by apply Array.ext'; simpa using hx
          subst e1
          exact ⟨outV_ok h hc fun _ => opx_max2 hop hd (hN t hd) h1 h2, outV_need h (by rw [Needs.append]; exact ⟨needs_look, needs_look⟩)⟩
        · cases h
      · cases h
    · cases h
  · rename_i t xs _ hd hop
    split at h
    · rename_i x y hx
      split at h
      · rename_i k m k' n h1 h2
        split at h
        · rename_i hk
          subst hk
          have e1 : xs = #[x, y] := by apply Array.ext'; simpa using hx
          subst e1
          exact ⟨outV_ok h hc fun _ => opx_min2 hop hd (hN t hd) h1 h2, outV_need h (by rw [Needs.append]; exact ⟨needs_look, needs_look⟩)⟩
        · cases h
      · cases h
    · cases h
  · rename_i t xs ts hd hop
    split at h
    · rename_i mv x y s s' hx hs
      split at h
      · rename_i i hi
        split at h
        · rename_i E he
          split at h
          · rename_i j hj
            split at h
            · rename_i cells refs r n news refs2 q m h1 h2
              split at h
              · rename_i hb
                cases h
                simp only [Bool.and_eq_true, Bool.not_eq_true', beq_iff_eq] at hb
                obtain ⟨⟨⟨⟨b1, b2⟩, b3⟩, b4⟩, b5⟩ := hb
                subst b1
                obtain ⟨s1, s2, s3, s4⟩ := sizeOK_spec b2
                have e1 : xs = #[x, y] := by apply Array.ext'; simpa using hx
                have e2 : ts = #[s, s] := by apply Array.ext'; simpa using hs
                subst e1 e2
                obtain ⟨c1, c2, c3, c4⟩ := hc
                refine ⟨opx_append hT hop hd (hN t hd) hi he hj s1 s2 s4 h1 h2 c1 c2 ?_ ?_ c3 b3 b4, by simp only [Needs.append]; exact ⟨needs_look, needs_look, needs_roots, needs_roots⟩⟩
                · rintro rfl
                  by_cases hsl : ∃ n off ds, evD st y = .sl n off ds
                  · exact .inr hsl
                  · left
                    have c4' : allP (srcConds none (evD st y) news) := c4
                    generalize evD st y = dy at c4' hsl
                    cases dy <;> first | exact c4'.1 | exact absurd ⟨_, _, _, rfl⟩ hsl
                · rintro k rfl hq
                  subst hq
                  simp [neOpt] at b5
              · cases h
            · cases h
          · cases h
        · cases h
      · cases h
    · cases h
  · rename_i fop xs ts hop
    cases hd : o.dst with
    | some t => rw [hd] at h; exact callOut_ok hd (fun t' e => hN t' (by rw [hd, e])) hN0 hop h hc
    | none => rw [hd] at h; exact callOut_ok hd (fun t' e => by cases e) hN0 hop h hc
  · rename_i rcv name xs ts hop
    cases hd : o.dst with
    | some t => rw [hd] at h; exact invOut_ok hd (fun t' e => hN t' (by rw [hd, e])) hN0 hop h hc
    | none => rw [hd] at h; exact invOut_ok hd (fun t' e => by cases e) hN0 hop h hc
  · cases h
end
end Go.Gx
namespace Go.Gx
inductive AllP : List Prop → Prop
  | nil : AllP []
  | cons {p : Prop} {l : List Prop} : p → AllP l → AllP (p :: l)
theorem AllP.all {l : List Prop} (h : AllP l) : allP l := by
  induction h with
  | nil => trivial
  | cons h _ ih => exact ⟨h, ih⟩
def orcAt : List (Nat × Orc) → Nat → Orc
  | [], _ => .none
  | p :: l, i => if i = p.1 then p.2 else orcAt l i
def dstOK (N : Nat) (o : Oper) : Bool := match o.dst with
  | some t => decide (t < N)
  | none => true
def stepG (P : Program) (T : Tab) (ops : Array Oper) (st : St) (o : Oper) (orc : Orc) : Option Out :=
  match o.guard with
  | none => stepOp P T st o orc
  | some (j, b) => match (ops[j]?).bind (·.dst) with
    | some u => match look st (2 * u) with
      | some (.d (.v (.bool b'))) => if b' = b then
          match stepOp P T st o orc with
          | some out => some ⟨(2 * u, .d (.v (.bool b))) :: out.need, out.wr, out.fresh, out.conds⟩
          | none => none
        else match o.dst with
          | some t => some ⟨[(2 * u, .d (.v (.bool (!b))))], [(2 * t, some (.d .any))], [], []⟩
          | none => none
      | _ => none
    | none => none
def runOps (P : Program) (T : Tab) (N np : Nat) (ops : Array Oper) (orcs : List (Nat × Orc)) : Nat → List Oper → St → Option (List Step × St × List Prop)
  | _, [], st => some ([], st, [])
  | i, o :: os, st => match stepG P T ops st o (orcAt orcs i) with
    | some out => if dstOK N o && out.fresh.all (freshB np st) then
        match runOps P T N np ops orcs (i + 1) os (updSt st out.wr) with
        | some (l, st', cs) => some (⟨out.need, out.wr, out.fresh⟩ :: l, st', out.conds ++ cs)
        | none => none
      else none
    | none => none
def drawOK (np : Nat) (ops : Array Oper) (st : St) (l : List Step) : Bool :=
  lexG ops l 0 (Array.replicate ops.size false) && namesG ops l && l.all fun s => s.fresh.all (freshB np st)
def runReg (P : Program) (T : Tab) (N np : Nat) (ops : Array Oper) (draw : Bool) (st : St) (orcs : List (Nat × Orc)) (ks : List Nat) : Option (St × List Prop) :=
  match runOps P T N np ops orcs 0 ops.toList st with
  | some (l, st', cs) => if !draw || drawOK np ops st l then
      match selSt st' ks with
      | some s => some (s, cs)
      | none => none
    else none
  | none => none
section
variable {P : Program} {T : Tab} {N np : Nat} {ops : Array Oper} {st : St}
theorem stepG_ok (hT : TabOk P T) {i : Nat} {o : Oper} {orc : Orc} {out : Out} (ho : ops[i]? = some o) (hd : dstOK N o = true) (hN0 : 0 < N) (h : stepG P T ops st o orc = some out) (hc : allP out.conds) :
    OpV P ops N i ⟨out.need, out.wr, out.fresh⟩ ∧ Needs (look st) out.need := by
  have hN : ∀ t, o.dst = some t → t < N := fun t e => by simp only [dstOK, e, decide_eq_true_eq] at hd; exact hd
  unfold stepG at h
  split at h
  · rename_i hg
    obtain ⟨h1, h2⟩ := stepOp_ok hT hN hN0 h hc
    exact ⟨opv_plain ho hg h1, h2⟩
  · rename_i j b hg
    split at h
    · rename_i u hu
      split at h
      · rename_i b' hb
        split at h
        · rename_i e
          subst e
          split at h
          · rename_i out' h'
            cases h
            obtain ⟨h1, h2⟩ := stepOp_ok hT hN hN0 h' hc
            exact ⟨opv_on ho hg hu h1, hb, h2⟩
          · cases h
        · rename_i e
          have e2 : b' = !b := by cases b <;> cases b' <;> simp_all
          subst e2
          split at h
          · rename_i t ht
            cases h
            exact ⟨opv_off ho hg hu ht (hN t ht), hb, trivial⟩
          · cases h
      · cases h
    · cases h
theorem runOps_ok (hT : TabOk P T) (hN0 : 0 < N) {orcs : List (Nat × Orc)} : ∀ (os : List Oper) (i : Nat) (st : St) {l : List Step} {st' : St} {cs : List Prop}, (∀ k o, os[k]? = some o → ops[i + k]? = some o) →
    runOps P T N np ops orcs i os st = some (l, st', cs) → allP cs → stepsOK P ops N i l ∧ l.length = os.length ∧ chain np (look st) l ∧ chainN (look st) l ∧ look st' = runSteps (look st) l
  | [], i, st, l, st', cs, _, h, _ => by
    simp only [runOps, Option.some.injEq, Prod.mk.injEq] at h
    obtain ⟨rfl, rfl, rfl⟩ := h
    exact ⟨trivial, rfl, trivial, trivial, rfl⟩
  | o :: os, i, st, l, st', cs, ho, h, hc => by
    simp only [runOps] at h
    split at h
    · rename_i out hout
      split at h
      · rename_i hb
        simp only [Bool.and_eq_true, List.all_eq_true] at hb
        split at h
        · rename_i l1 st1 cs1 h1
          cases h
          rw [allP_append] at hc
          obtain ⟨v1, n1⟩ := stepG_ok hT (by simpa using ho 0 o rfl) hb.1 hN0 hout hc.1
          obtain ⟨v2, e2, c2, d2, g2⟩ := runOps_ok hT hN0 os (i + 1) (updSt st out.wr) (fun k o' hk => by
            have := ho (k + 1) o' (by simpa using hk)
            rwa [show i + 1 + k = i + (k + 1) by omega]) h1 hc.2
          rw [look_updSt] at c2 d2 g2
          exact ⟨⟨v1, v2⟩, by simp [e2], ⟨n1, fun r hr => freshB_spec (hb.2 r hr), c2⟩, ⟨n1, d2⟩, g2⟩
        · cases h
      · cases h
    · cases h
theorem tr_run (hT : TabOk P T) (hm : P.follows .mixedOrders = true) {id : Nat} {draw : Bool} {orcs : List (Nat × Orc)} {ks : List Nat} {st' : St} {cs : List Prop} {Q : Post} (hc : AllP cs)
    (hN0 : 0 < N) (hrun : runReg P T N np ops draw st orcs ks = some (st', cs)) (h : Q .normal st') : Tr P N np (.region id ops draw) st Q := by
  unfold runReg at hrun
  split at hrun
  · rename_i l st1 cs1 h1
    split at hrun
    · rename_i hb
      split at hrun
      · rename_i s hs
        cases hrun
        obtain ⟨v, e, c, d, g⟩ := runOps_ok hT hN0 ops.toList 0 st (fun k o hk => by simpa using hk) h1 hc.all
        have hsub : ∀ k e, look st' k = some e → runSteps (look st) l k = some e := fun k e he => by rw [← g]; exact selSt_sub hs k e he
        cases draw with
        | false => exact tr_region v (by simpa using e) c hsub h
        | true =>
          simp only [Bool.not_true, Bool.false_or, drawOK, Bool.and_eq_true, List.all_eq_true] at hb
          exact tr_draw hm v (by simpa using e) hb.1.1 hb.1.2 d (fun s hs r hr => freshB_spec (hb.2 s hs r hr)) hsub h
      · cases hrun
    · cases hrun
  · cases hrun
end
end Go.Gx
