/- Models: loops, indexing, arithmetic; how they read as data; rules in the form in which they are printed. -/
import Derived.Test.YtggojehmbpbefaaGxW
namespace Go.Gx

abbrev iv (x : Int) : D := .v (.int .i64 x)
abbrev bv (b : Bool) : D := .v (.bool b)
abbrev nilv : D := .v (.slice .none 0 0)
def ints (xs : List Int) : List D := xs.map iv

/-- A loop: the body says what comes next. -/
def iter {σ ρ : Type} (body : σ → (σ → Option ρ) → Option ρ) : Nat → σ → Option ρ
  | 0, _ => none
  | n + 1, s => body s (iter body n)

/-- How many rounds a loop may take. -/
def fuel : Nat := 4294967296

def idx {α : Type} (l : List α) (i : Int) : Option α := if 0 ≤ i then l[i.toNat]? else none

theorem idx_some {α : Type} {l : List α} {i : Int} {x : α} (h : idx l i = some x) : 0 ≤ i ∧ i < (l.length : Int) ∧ l[i.toNat]? = some x := by
  unfold idx at h
  split at h
  · rename_i h0
    have := (List.getElem?_eq_some_iff.1 h).1
    exact ⟨h0, by omega, h⟩
  · cases h

/-- The model goes on only if a condition holds. -/
def chk {α : Type} (p : Prop) [Decidable p] (x : Option α) : Option α := if p then x else none

theorem chk_some {α : Type} {p : Prop} [Decidable p] {x : Option α} {r : α} (h : chk p x = some r) : p ∧ x = some r := by
  unfold chk at h
  split at h
  · rename_i hp; exact ⟨hp, h⟩
  · cases h

theorem bind_some' {α β : Type} {x : Option α} {f : α → Option β} {r : β} (h : x.bind f = some r) : ∃ y, x = some y ∧ f y = some r := by
  cases x with
  | none => cases h
  | some y => exact ⟨y, rfl, h⟩

theorem ite_true' {α : Type} {b : Bool} {x y r : α} (h : (if b = true then x else y) = r) (hb : b = true) : x = r := by rw [← h, if_pos hb]
theorem ite_false' {α : Type} {b : Bool} {x y r : α} (h : (if b = true then x else y) = r) (hb : b = false) : y = r := by rw [← h, if_neg (by rw [hb]; simp)]

/-! ### lists as data -/
def encL {α : Type} (f : α → List D) (xs : List α) : List D := xs.flatMap f

theorem map_at {α : Type} {f : α → D} {xs : List α} {i : Int} {x : α} (h : xs[i.toNat]? = some x) : (xs.map f)[0 + i.toNat * 1]? = some (f x) := by
  simp [h]
theorem ints_at {xs : List Int} {i : Int} {x : Int} (h : xs[i.toNat]? = some x) : (ints xs)[0 + i.toNat * 1]? = some (iv x) := map_at h
theorem menL_map {α : Type} {f : α → D} (h : ∀ x, (f x).men = []) : ∀ l : List α, menL (l.map f) = []
  | [] => rfl
  | x :: l => by simp [menL, h x, menL_map h l]
theorem noFrL_map {α : Type} {f : α → D} (h : ∀ x, (f x).noFr = true) : ∀ l : List α, noFrL (l.map f) = true
  | [] => rfl
  | x :: l => by simp [noFrL, h x, noFrL_map h l]

/-! ### the rules, as they are printed -/
section
variable {P : Program} {T : Tab} {N np : Nat} {st : St} {Q : Post}

theorem fnc_start {f : FuncId} {fn : Func} {c : Code} {rin rout : List (Nat × Root)} {args : List D} {res : D} (hT : TabOk P T) (hf : P.funcs[f]? = some fn) (hb : fn.body = some c) (hN : fn.ntmps = N) (hk : Nat.ble args.length N = true) (h : Tr P N np c (argSt 0 args ++ rootSt rin) (retQ T fn np rout res)) : FnC P f rin args rout res := by
  subst hN
  exact fnc_intro hT hf hb (Nat.le_of_ble_eq_true hk) h

theorem tr_sr (hT : TabOk P T) (hm : P.follows .mixedOrders = true) {id : Nat} {ops : Array Oper} {draw : Bool} {y : Code} (orcs : List (Nat × Orc)) (ks : List Nat) (st' : St) {cs : List Prop} (hc : AllP cs)
    (hN0 : Nat.ble 1 N = true) (hrun : runReg P T N np ops draw st orcs ks = some (st', cs)) (h : Tr P N np y st' Q) : Tr P N np (.seq (.region id ops draw) y) st Q :=
  tr_seq (tr_run hT hm hc (Nat.le_of_ble_eq_true hN0) hrun h)

theorem tr_r (hT : TabOk P T) (hm : P.follows .mixedOrders = true) {id : Nat} {ops : Array Oper} {draw : Bool} (orcs : List (Nat × Orc)) (ks : List Nat) (st' : St) {cs : List Prop} (hc : AllP cs)
    (hN0 : Nat.ble 1 N = true) (hrun : runReg P T N np ops draw st orcs ks = some (st', cs)) (h : Q .normal st') : Tr P N np (.region id ops draw) st Q :=
  tr_run hT hm hc (Nat.le_of_ble_eq_true hN0) hrun h

theorem tr_condT {t : Nat} {x y : Code} (hc : look st (2 * t) = some (.d (.v (.bool true)))) (h : Tr P N np x st Q) : Tr P N np (.cond (.tmp t) x y) st Q := tr_cond hc h
theorem tr_condF {t : Nat} {x y : Code} (hc : look st (2 * t) = some (.d (.v (.bool false)))) (h : Tr P N np y st Q) : Tr P N np (.cond (.tmp t) x y) st Q := tr_cond hc h

theorem q_n {y : Code} (h : Tr P N np y st Q) : thenQ P N np y Q .normal st := h
theorem q_x {y : Code} {id : Nat} (h : Q (.exit id) st) : thenQ P N np y Q (.exit id) st := h
theorem q_r {y : Code} (h : Q .ret st) : thenQ P N np y Q .ret st := h
theorem b_n {id : Nat} (h : Q .normal st) : blockQ id Q .normal st := h
theorem b_r {id : Nat} (h : Q .ret st) : blockQ id Q .ret st := h
theorem b_h {id : Nat} (h : Q .normal st) : blockQ id Q (.exit id) st := by show (if id = id then Q .normal st else Q (.exit id) st); rw [if_pos rfl]; exact h
theorem b_x {id id' : Nat} (hne : Nat.beq id' id = false) (h : Q (.exit id') st) : blockQ id Q (.exit id') st := by
  have : id' ≠ id := Nat.ne_of_beq_eq_false hne
  show (if id' = id then Q .normal st else Q (.exit id') st); rw [if_neg this]; exact h
theorem l_n {n : Nat} {c : Code} (h : TrL P N np n c st Q) : roundQ P N np n c Q .normal st := h
theorem l_x {n : Nat} {c : Code} {id : Nat} (h : Q (.exit id) st) : roundQ P N np n c Q (.exit id) st := h
theorem l_r {n : Nat} {c : Code} (h : Q .ret st) : roundQ P N np n c Q .ret st := h

theorem tr_iter {σ ρ : Type} {body : σ → (σ → Option ρ) → Option ρ} {r : ρ} {k : Nat} {c : Code} (enc : σ → St) (s0 : σ) (hs : st = enc s0) (hM : iter body k s0 = some r)
    (step : ∀ (n : Nat) (next : σ → Option ρ), (∀ s, next s = some r → TrL P N np n c (enc s) Q) → ∀ s, body s next = some r → Tr P N np c (enc s) (roundQ P N np n c Q)) : Tr P N np (.loop c) st Q := by
  subst hs
  refine tr_loop (n := k) ?_
  have : ∀ (n : Nat) (s : σ), iter body n s = some r → TrL P N np n c (enc s) Q := by
    intro n
    induction n with
    | zero => intro s h; cases h
    | succ n ih => intro s h; exact trl_succ (step n (iter body n) ih s h)
  exact this k s0 hM

/-- What comes behind is shown once. -/
theorem tr_join {σ ρ : Type} {k : σ → Option ρ} {r : ρ} {x y : Code} (enc : σ → St) (hk : ∀ s, k s = some r → Tr P N np y (enc s) Q)
    (h : (∀ s, k s = some r → Tr P N np y (enc s) Q) → Tr P N np x st (thenQ P N np y Q)) : Tr P N np (.seq x y) st Q := tr_seq (h hk)

/-! ### calls -/
theorem BorL.keep {B : List Nat} {ρ : Nat → Nat} : ∀ {ds : List D}, menL ds = [] → BorL st B ρ ds ds
  | [], _ => .nil
  | _ :: _, h => .cons (.same (men_nil h).1) (BorL.keep (men_nil h).2)

/-- A call that reads borrowed data alone. -/
theorem cc0 {f : FuncId} {args : List D} {res : D} {cs : List Prop} (h1 : CallOk P f) (h3 : FnC P f [] args [] res) (hm : menL args = []) (rest : AllP cs) :
    AllP (CallOk P f :: BorL (rootSt []) [] (rhoOf []) args args :: FnC P f [] args [] res :: (([] : List Nat) = [] ∨ (NoBor res ∧ NoBorRs [])) :: cs) :=
  .cons h1 (.cons (.keep hm) (.cons h3 (.cons (.inl rfl) rest)))

theorem cc {f : FuncId} {B : List Nat} {ρ : List (Nat × Nat)} {rB rin rout : List (Nat × Root)} {ds args : List D} {res : D} {cs : List Prop} (h1 : CallOk P f) (h3 : FnC P f rin args rout res) (h2 : BorL (rootSt rB) B (rhoOf ρ) ds args)
    (h4 : B = [] ∨ (NoBor res ∧ NoBorRs rout)) (rest : AllP cs) :
    AllP (CallOk P f :: BorL (rootSt rB) B (rhoOf ρ) ds args :: FnC P f rin args rout res :: (B = [] ∨ (NoBor res ∧ NoBorRs rout)) :: cs) :=
  .cons h1 (.cons h2 (.cons h3 (.cons h4 rest)))

/-! ### returns -/
def own1C (st : St) : D → List Prop
  | .rs r off n => match look st (2 * r + 1) with
    | some (.r (.arr sz cells [])) => if off = 0 then [cells.length = n * sz] else []
    | _ => []
  | _ => []
def ownLC (st : St) : List D → List Prop
  | [] => []
  | d :: ds => own1C st d ++ ownLC st ds
def outC (st : St) : ResultVar → List Prop
  | .tmp t => match look st (2 * t) with
    | some (.d (.agg ds)) => ownLC st ds
    | some (.d d) => own1C st d
    | _ => []
  | .cell t _ => match look st (2 * t) with
    | some (.d (.rp r 0)) => match look st (2 * r + 1) with
      | some (.r (.arr _ cells _)) => ownLC st cells
      | _ => []
    | _ => []
def outsC (st : St) : List ResultVar → List Prop
  | [] => []
  | v :: l => outC st v ++ outsC st l
/-- What the kernel checks. -/
def outB (T : Tab) (st : St) : ResultVar → Bool
  | .tmp _ => true
  | .cell t s => match look st (2 * t) with
    | some (.d (.rp r 0)) => match look st (2 * r + 1) with
      | some (.r (.arr _ cells refs)) => subRefs (menL cells) refs && (match T.get s with | some i => isAggD i.desc && Nat.beq cells.length i.size | none => false)
      | _ => true
    | _ => true

theorem own1C_P {d : D} (h : allP (own1C st d)) : own1P st d := by
  cases d <;> first | trivial | skip
  case rs r off n =>
    simp only [own1C] at h
    simp only [own1P]
    split
    · rename_i hl
      rw [hl] at h
      simp only [] at h
      split
      · rename_i h0
        rw [if_pos h0] at h
        exact h.1
      · trivial
    · trivial
theorem ownLC_P : ∀ {ds : List D}, allP (ownLC st ds) → ownLP st ds
  | [], _ => trivial
  | d :: ds, h => by
    simp only [ownLC, allP_append] at h
    exact ⟨own1C_P h.1, ownLC_P h.2⟩
theorem outC_P {v : ResultVar} (hb : outB T st v = true) (h : allP (outC st v)) : outP T st v := by
  cases v with
  | tmp t =>
    simp only [outC] at h
    simp only [outP]
    split
    · rename_i hl; rw [hl] at h; exact ownLC_P h
    · rename_i d hnag hl
      rw [hl] at h
      cases d <;> first | exact own1C_P h | exact absurd rfl (hnag _)
    · trivial
  | cell t s =>
    simp only [outC] at h
    simp only [outB] at hb
    simp only [outP]
    split
    · rename_i r hl
      rw [hl] at h hb
      simp only [] at h hb
      split
      · rename_i sz cells refs hl2
        rw [hl2] at h hb
        simp only [Bool.and_eq_true] at hb
        refine ⟨ownLC_P h, hb.1, ?_⟩
        have hb2 := hb.2
        split at hb2
        · rename_i i hi
          simp only [Bool.and_eq_true] at hb2
          exact ⟨i, hi, hb2.1, Nat.eq_of_beq_eq_true hb2.2⟩
        · cases hb2
      · trivial
    · trivial
theorem outsC_P : ∀ {l : List ResultVar}, l.all (outB T st) = true → allP (outsC st l) → outsP T st l
  | [], _, _ => trivial
  | v :: l, hb, h => by
    simp only [List.all_cons, Bool.and_eq_true] at hb
    simp only [outsC, allP_append] at h
    exact ⟨outC_P hb.1 h.1, outsC_P hb.2 h.2⟩

def routOf (st : St) : List Nat → Option (List (Nat × Root))
  | [] => some []
  | r :: l => match look st (2 * r + 1), routOf st l with
    | some (.r x), some rs => some ((r, x) :: rs)
    | _, _ => none

theorem routOf_ok : ∀ {l : List Nat} {rs : List (Nat × Root)}, routOf st l = some rs → ∀ p ∈ rs, look st (2 * p.1 + 1) = some (.r p.2)
  | [], rs, h, p, hp => by simp only [routOf, Option.some.injEq] at h; subst h; cases hp
  | r :: l, rs, h, p, hp => by
    simp only [routOf] at h
    split at h
    · rename_i x rs' h1 h2
      cases h
      rcases List.mem_cons.1 hp with rfl | hp
      · exact h1
      · exact routOf_ok h2 p hp
    · cases h

def nodupB : List Nat → Bool
  | [] => true
  | x :: l => !l.contains x && nodupB l
theorem nodupB_ok : ∀ {l : List Nat}, nodupB l = true → l.Nodup
  | [], _ => List.nodup_nil
  | x :: l, h => by
    simp only [nodupB, Bool.and_eq_true, Bool.not_eq_true'] at h
    refine List.nodup_cons.2 ⟨fun hm => ?_, nodupB_ok h.2⟩
    have := h.1
    simp at this; exact this hm

def allLt (np : Nat) (l : List Nat) : Bool := l.all fun r => Nat.blt r np

def retRun (T : Tab) (np : Nat) (st : St) (vs : List ResultVar) (names : List Nat) : Option (D × List (Nat × Root) × List Prop) :=
  match outs st vs, routOf st names with
  | some (ds, l), some rout =>
    if nodupB l && vs.all (outB T st) && (rout.all fun p => !l.contains p.1 && Nat.blt p.1 np && allLt np (rootRefs p.2)) && allLt np (resD ds).men then some (resD ds, rout, outsC st vs) else none
  | _, _ => none

theorem retq {fn : Func} {names : List Nat} {rout : List (Nat × Root)} {res : D} {cs : List Prop} (hc : AllP cs) (h : retRun T np st fn.results.toList names = some (res, rout, cs)) : RetQ T fn np rout res st := by
  unfold retRun at h
  split at h
  · rename_i ds l rout' h1 h2
    split at h
    · rename_i hb
      cases h
      simp only [Bool.and_eq_true] at hb
      obtain ⟨⟨⟨b1, b2⟩, b3⟩, b4⟩ := hb
      have b3' : ∀ p ∈ rout, l.contains p.1 = false ∧ p.1 < np ∧ ∀ q ∈ rootRefs p.2, q < np := fun p hp => by
        have := List.all_eq_true.1 b3 p hp
        simp only [Bool.and_eq_true, Bool.not_eq_true'] at this
        refine ⟨this.1.1, by simpa [Nat.blt_eq] using this.1.2, fun q hq => ?_⟩
        have h5 := List.all_eq_true.1 this.2 q hq
        simpa [Nat.blt_eq] using h5
      refine ⟨⟨ds, l, h1, outsC_P b2 hc.all, rfl, nodupB_ok b1, fun p hp hm => ?_⟩, fun p hp => ⟨routOf_ok h2 p hp, (b3' p hp).2⟩, fun r hr => ?_⟩
      · have := (b3' p hp).1
        simp at this; exact this hm
      · have h5 := List.all_eq_true.1 b4 r hr
        simpa [Nat.blt_eq] using h5
    · cases h
  · cases h
theorem ret_q {fn : Func} {names : List Nat} {rout : List (Nat × Root)} {res : D} {cs : List Prop} (hc : AllP cs) (h : retRun T np st fn.results.toList names = some (res, rout, cs)) : retQ T fn np rout res .ret st := retq hc h
theorem ret_qn {fn : Func} {names : List Nat} {rout : List (Nat × Root)} {res : D} {cs : List Prop} (hc : AllP cs) (h : retRun T np st fn.results.toList names = some (res, rout, cs)) : retQ T fn np rout res .normal st := retq hc h
end
end Go.Gx
