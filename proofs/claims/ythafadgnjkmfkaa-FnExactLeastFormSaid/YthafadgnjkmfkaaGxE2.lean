import Derived.Test.YthafadgnjkmfkaaGxE1
import Derived.Test.YthafadgnjkmfkaaGxE0
import Derived.ChangeArms
import Derived.DataReads
import Derived.OpenShut
namespace Go.Gx
abbrev iv (x : Int) : D := .v (.int .i64 x)
abbrev bv (b : Bool) : D := .v (.bool b)
abbrev nilv : D := .v (.slice .none 0 0)
def iter {σ ρ : Type} (body : σ → (σ → Option ρ) → Option ρ) : Nat → σ → Option ρ
  | 0, _ => none
  | n + 1, s => body s (iter body n)
def fuel : Nat := 4294967296
def idx {α : Type} (l : List α) (i : Int) : Option α := if 0 ≤ i then l[i.toNat]? else none
theorem idx_some {α : Type} {l : List α} {i : Int} {x : α} (h : idx l i = some x) : 0 ≤ i ∧ i < (l.length : Int) ∧ l[i.toNat]? = some x := by
  unfold idx at h
  split at h
  · rename_i h0
    have := (List.getElem?_eq_some_iff.1 h).1
    exact ⟨h0, by omega, h⟩
  · cases h
def chk {α : Type} (p : Prop) [Decidable p] (x : Option α) : Option α := if p then x else none
theorem chk_some {α : Type} {p : Prop} [Decidable p] {x : Option α} {r : α} (h : chk p x = some r) : p ∧ x = some r := by
  unfold chk at h
  split at h
  · rename_i hp; exact ⟨hp, h⟩
  · cases h
theorem bind_some' {α β : Type} {x : Option α} {f : α → Option β} {r : β} (h : x.bind f = some r) : ∃ y, x = some y ∧ f y = some r := by
  cases x with
  | none => cases h
  | some y => exact ⟨y, rfl, h⟩
theorem ite_true' {α : Type} {b : Bool} {x y r : α} (h : (if b = true then x else y) = r) (hb : b = true) : x = r := by rw [← h, if_pos hb]
theorem ite_false' {α : Type} {b : Bool} {x y r : α} (h : (if b = true then x else y) = r) (hb : b = false) : y = r := by rw [← h, if_neg (by rw [hb]; simp)]
theorem menL_map {α : Type} {f : α → D} (h : ∀ x, (f x).men = []) : ∀ l : List α, menL (l.map f) = []
  | [] => rfl
  | x :: l => by simp [menL, h x, menL_map h l]
theorem noFrL_map {α : Type} {f : α → D} (h : ∀ x, (f x).noFr = true) : ∀ l : List α, noFrL (l.map f) = true
  | [] => rfl
  | x :: l => by simp [noFrL, h x, noFrL_map h l]
section
variable {P : Program} {T : Tab} {N np : Nat} {st : St} {Q : Post}
theorem fnc_start {f : FuncId} {fn : Func} {c : Code} {rin rout : List (Nat × Root)} {args : List D} {res : D} (hT : TabOk P T) (hf : P.funcs[f]? = some fn) (hb : fn.body = some c) (hN : fn.ntmps = N) (hk : Nat.ble args.length N = true) (h : Tr P N np c (argSt 0 args ++ rootSt rin) (retQ T fn np rout res)) : FnC P f rin args rout res := by
  subst hN
  exact fnc_intro hT hf hb (Nat.le_of_ble_eq_true hk) h
theorem tr_sr (hT : TabOk P T) (hm : P.follows .mixedOrders = true) {id : Nat} {ops : Array Oper} {draw : Bool} {y : Code} (orcs : List (Nat × Orc)) (ks : List Nat) (st' : St) {cs : List Prop} (hc : AllP cs)
    (hN0 : Nat.ble 1 N = true) (hrun : runReg P T N np ops draw st orcs ks = some (st', cs)) (h : Tr P N np y st' Q) : Tr P N np (.seq (.region id ops draw) y) st Q :=
  tr_seq (tr_run hT hm hc (Nat.le_of_ble_eq_true hN0) hrun h)
theorem tr_r (hT : TabOk P T) (hm : P.follows .mixedOrders = true) {id : Nat} {ops : Array Oper} {draw : Bool} (orcs : List (Nat × Orc)) (ks : List Nat) (st' : St) {cs : List Prop} (hc : AllP cs)
    (hN0 : Nat.ble 1 N = true) (hrun : runReg P T N np ops draw st orcs ks = some (st', cs)) (h : Q .normal st') : Tr P N np (.region id ops draw) st Q :=
  tr_run hT hm hc (Nat.le_of_ble_eq_true hN0) hrun h
theorem tr_condT {t : Nat} {x y : Code} (hc : look st (2 * t) = some (.d (.v (.bool true)))) (h : Tr P N np x st Q) : Tr P N np (.cond (.tmp t) x y) st Q := tr_cond hc h
theorem tr_condF {t : Nat} {x y : Code} (hc : look st (2 * t) = some (.d (.v (.bool false)))) (h : Tr P N np y st Q) : Tr P N np (.cond (.tmp t) x y) st Q := tr_cond hc h
theorem q_n {y : Code} (h : Tr P N np y st Q) : thenQ P N np y Q .normal st := h
theorem q_x {y : Code} {id : Nat} (h : Q (.exit id) st) : thenQ P N np y Q (.exit id) st := h
theorem q_r {y : Code} (h : Q .ret st) : thenQ P N np y Q .ret st := h
theorem b_n {id : Nat} (h : Q .normal st) : blockQ id Q .normal st := h
theorem b_r {id : Nat} (h : Q .ret st) : blockQ id Q .ret st := h
theorem b_h {id : Nat} (h : Q .normal st) : blockQ id Q (.exit id) st := by show (if id = id then Q .normal st else Q (.exit id) st); rw [if_pos rfl]; exact h
theorem l_n {n : Nat} {c : Code} (h : TrL P N np n c st Q) : roundQ P N np n c Q .normal st := h
theorem l_x {n : Nat} {c : Code} {id : Nat} (h : Q (.exit id) st) : roundQ P N np n c Q (.exit id) st := h
theorem l_r {n : Nat} {c : Code} (h : Q .ret st) : roundQ P N np n c Q .ret st := h
theorem tr_iter {σ ρ : Type} {body : σ → (σ → Option ρ) → Option ρ} {r : ρ} {k : Nat} {c : Code} (enc : σ → St) (s0 : σ) (hs : st = enc s0) (hM : iter body k s0 = some r)
    (step : ∀ (n : Nat) (next : σ → Option ρ), (∀ s, next s = some r → TrL P N np n c (enc s) Q) → ∀ s, body s next = some r → Tr P N np c (enc s) (roundQ P N np n c Q)) : Tr P N np (.loop c) st Q := by
  subst hs
  refine tr_loop (n := k) ?_
  have : ∀ (n : Nat) (s : σ), iter body n s = some r → TrL P N np n c (enc s) Q := by
    intro n
    induction n with
    | zero => intro s h; cases h
    | succ n ih => intro s h; exact trl_succ (step n (iter body n) ih s h)
  exact this k s0 hM
theorem BorL.keep {B : List Nat} {ρ : Nat → Nat} : ∀ {ds : List D}, menL ds = [] → BorL st B ρ ds ds
  | [], _ => .nil
  | _ :: _, h => .cons (.same (men_nil h).1) (BorL.keep (men_nil h).2)
theorem cc0 {f : FuncId} {args : List D} {res : D} {cs : List Prop} (h1 : CallOk P f) (h3 : FnC P f [] args [] res) (hm : menL args = []) (rest : AllP cs) :
    AllP (CallOk P f :: BorL (rootSt []) [] (rhoOf []) args args :: FnC P f [] args [] res :: (([] : List Nat) = [] ∨ (NoBor res ∧ NoBorRs [])) :: cs) :=
  .cons h1 (.cons (.keep hm) (.cons h3 (.cons (.inl rfl) rest)))
theorem cc {f : FuncId} {B : List Nat} {ρ : List (Nat × Nat)} {rB rin rout : List (Nat × Root)} {ds args : List D} {res : D} {cs : List Prop} (h1 : CallOk P f) (h3 : FnC P f rin args rout res) (h2 : BorL (rootSt rB) B (rhoOf ρ) ds args)
    (h4 : B = [] ∨ (NoBor res ∧ NoBorRs rout)) (rest : AllP cs) :
    AllP (CallOk P f :: BorL (rootSt rB) B (rhoOf ρ) ds args :: FnC P f rin args rout res :: (B = [] ∨ (NoBor res ∧ NoBorRs rout)) :: cs) :=
  .cons h1 (.cons h2 (.cons h3 (.cons h4 rest)))
def own1C (st : St) : D → List Prop
  | .rs r off n => match look st (2 * r + 1) with
    | some (.r (.arr sz cells [])) => if off = 0 then [cells.length = n * sz] else []
    | _ => []
  | _ => []
def ownLC (st : St) : List D → List Prop
  | [] => []
  | d :: ds => own1C st d ++ ownLC st ds
def outC (st : St) : ResultVar → List Prop
  | .tmp t => match look st (2 * t) with
    | some (.d (.agg ds)) => ownLC st ds
    | some (.d d) => own1C st d
    | _ => []
  | .cell t _ => match look st (2 * t) with
    | some (.d (.rp r 0)) => match look st (2 * r + 1) with
      | some (.r (.arr _ cells _)) => ownLC st cells
      | _ => []
    | _ => []
def outsC (st : St) : List ResultVar → List Prop
  | [] => []
  | v :: l => outC st v ++ outsC st l
def outB (T : Tab) (st : St) : ResultVar → Bool
  | .tmp _ => true
  | .cell t s => match look st (2 * t) with
    | some (.d (.rp r 0)) => match look st (2 * r + 1) with
      | some (.r (.arr _ cells refs)) => subRefs (menL cells) refs && (match T.get s with | some i => isAggD i.desc && Nat.beq cells.length i.size | none => false)
      | _ => true
    | some (.d (.pt ds 0)) => match T.get s with | some i => isAggD i.desc && Nat.beq ds.length i.size | none => false
    | _ => true
theorem own1C_P {d : D} (h : allP (own1C st d)) : own1P st d := by
  cases d <;> first | trivial | skip
  case rs r off n =>
    simp only [own1C] at h
    simp only [own1P]
    split
    · rename_i hl
      rw [hl] at h
      simp only [] at h
      split
      · rename_i h0
        rw [if_pos h0] at h
        exact h.1
      · trivial
    · trivial
theorem ownLC_P : ∀ {ds : List D}, allP (ownLC st ds) → ownLP st ds
  | [], _ => trivial
  | d :: ds, h => by
    simp only [ownLC, allP_append] at h
    exact ⟨own1C_P h.1, ownLC_P h.2⟩
theorem outC_P {v : ResultVar} (hb : outB T st v = true) (h : allP (outC st v)) : outP T st v := by
  cases v with
  | tmp t =>
    simp only [outC] at h
    simp only [outP]
    split
    · rename_i hl; rw [hl] at h; exact ownLC_P h
    · rename_i d hnag hl
      rw [hl] at h
      cases d <;> first | exact own1C_P h | exact absurd rfl (hnag _)
    · trivial
  | cell t s =>
    simp only [outC] at h
    simp only [outB] at hb
    simp only [outP]
    split
    · rename_i r hl
      rw [hl] at h hb
      simp only [] at h hb
      split
      · rename_i sz cells refs hl2
        rw [hl2] at h hb
        simp only [Bool.and_eq_true] at hb
        refine ⟨ownLC_P h, hb.1, ?_⟩
        have hb2 := hb.2
        split at hb2
        · rename_i i hi
          simp only [Bool.and_eq_true] at hb2
          exact ⟨i, hi, hb2.1, Nat.eq_of_beq_eq_true hb2.2⟩
        · cases hb2
      · trivial
    · rename_i ds hl
      rw [hl] at hb
      simp only [] at hb
      split at hb
      · rename_i i hi
        simp only [Bool.and_eq_true] at hb
        exact ⟨i, hi, hb.1, Nat.eq_of_beq_eq_true hb.2⟩
      · cases hb
    · trivial
theorem outsC_P : ∀ {l : List ResultVar}, l.all (outB T st) = true → allP (outsC st l) → outsP T st l
  | [], _, _ => trivial
  | v :: l, hb, h => by
    simp only [List.all_cons, Bool.and_eq_true] at hb
    simp only [outsC, allP_append] at h
    exact ⟨outC_P hb.1 h.1, outsC_P hb.2 h.2⟩
def routOf (st : St) : List Nat → Option (List (Nat × Root))
  | [] => some []
  | r :: l => match look st (2 * r + 1), routOf st l with
    | some (.r x), some rs => some ((r, x) :: rs)
    | _, _ => none
theorem routOf_ok : ∀ {l : List Nat} {rs : List (Nat × Root)}, routOf st l = some rs → ∀ p ∈ rs, look st (2 * p.1 + 1) = some (.r p.2)
  | [], rs, h, p, hp => by simp only [routOf, Option.some.injEq] at h; subst h; cases hp
  | r :: l, rs, h, p, hp => by
    simp only [routOf] at h
    split at h
    · rename_i x rs' h1 h2
      cases h
      rcases List.mem_cons.1 hp with rfl | hp
      · exact h1
      · exact routOf_ok h2 p hp
    · cases h
def nodupB : List Nat → Bool
  | [] => true
  | x :: l => !l.contains x && nodupB l
theorem nodupB_ok : ∀ {l : List Nat}, nodupB l = true → l.Nodup
  | [], _ => List.nodup_nil
  | x :: l, h => by
    simp only [nodupB, Bool.and_eq_true, Bool.not_eq_true'] at h
    refine List.nodup_cons.2 ⟨fun hm => ?_, nodupB_ok h.2⟩
    have := h.1
    simp at this; exact this hm
def allLt (np : Nat) (l : List Nat) : Bool := l.all fun r => Nat.blt r np
def retRun (T : Tab) (np : Nat) (st : St) (vs : List ResultVar) (names : List Nat) : Option (D × List (Nat × Root) × List Prop) :=
  match outs st vs, routOf st names with
  | some (ds, l), some rout =>
    if nodupB l && vs.all (outB T st) && (rout.all fun p => !l.contains p.1 && Nat.blt p.1 np && allLt np (rootRefs p.2)) && allLt np (resD ds).men then some (resD ds, rout, outsC st vs) else none
  | _, _ => none
theorem retq {fn : Func} {names : List Nat} {rout : List (Nat × Root)} {res : D} {cs : List Prop} (hc : AllP cs) (h : retRun T np st fn.results.toList names = some (res, rout, cs)) : RetQ T fn np rout res st := by
  unfold retRun at h
  split at h
  · rename_i ds l rout' h1 h2
    split at h
    · rename_i hb
      cases h
      simp only [Bool.and_eq_true] at hb
      obtain ⟨⟨⟨b1, b2⟩, b3⟩, b4⟩ := hb
      have b3' : ∀ p ∈ rout, l.contains p.1 = false ∧ p.1 < np ∧ ∀ q ∈ rootRefs p.2, q < np := fun p hp => by
        have := List.all_eq_true.1 b3 p hp
        simp only [Bool.and_eq_true, Bool.not_eq_true'] at this
        refine ⟨this.1.1, by simpa [Nat.blt_eq] using this.1.2, fun q hq => ?_⟩
        have h5 := List.all_eq_true.1 this.2 q hq
        simpa [Nat.blt_eq] using h5
      refine ⟨⟨ds, l, h1, outsC_P b2 hc.all, rfl, nodupB_ok b1, fun p hp hm => ?_⟩, fun p hp => ⟨routOf_ok h2 p hp, (b3' p hp).2⟩, fun r hr => ?_⟩
      · have := (b3' p hp).1
        simp at this; exact this hm
      · have h5 := List.all_eq_true.1 b4 r hr
        simpa [Nat.blt_eq] using h5
    · cases h
  · cases h
end
end Go.Gx
namespace Go.Gx
structure Enc (α : Type) where
  sz : Nat
  b : α → List D
  o : α → List D
structure EncOk {α : Type} (e : Enc α) : Prop where
  lenB : ∀ x, (e.b x).length = e.sz
  lenO : ∀ x, (e.o x).length = e.sz
  menB : ∀ x, menL (e.b x) = []
  menO : ∀ x, menL (e.o x) = []
  noFr : ∀ x, noFrL (e.b x) = true
  bor : ∀ st B x, BorC st B (e.o x) (e.b x)
def eI : Enc Int := ⟨1, fun x => [iv x], fun x => [iv x]⟩
def eS {α : Type} (e : Enc α) : Enc (List α) := ⟨1, fun xs => [.sl xs.length 0 (xs.flatMap e.b)], fun xs => [.fr e.sz xs.length (xs.flatMap e.o)]⟩
def eF {α : Type} (e : Enc α) : Enc α := ⟨e.sz, e.b, e.b⟩
def eP {α : Type} (e : Enc α) : Enc α := ⟨1, fun x => [.pt (e.b x) 0], fun x => [.pt (e.b x) 0]⟩
def eC {α γ : Type} (e : Enc α) (f : γ → α) : Enc γ := ⟨e.sz, fun c => e.b (f c), fun c => e.o (f c)⟩
def eA {γ : Type} (e e' : Enc γ) : Enc γ := ⟨e.sz + e'.sz, fun c => e.b c ++ e'.b c, fun c => e.o c ++ e'.o c⟩
theorem menL_flatMap {α : Type} {f : α → List D} (h : ∀ x, menL (f x) = []) : ∀ xs : List α, menL (xs.flatMap f) = []
  | [] => rfl
  | x :: xs => by rw [List.flatMap_cons, menL_append, h x, menL_flatMap h xs]; rfl
theorem noFrL_append : ∀ {a b : List D}, noFrL (a ++ b) = (noFrL a && noFrL b)
  | [], _ => by simp [noFrL]
  | d :: a, b => by simp [noFrL, noFrL_append (a := a), Bool.and_assoc]
theorem noFrL_flatMap {α : Type} {f : α → List D} (h : ∀ x, noFrL (f x) = true) : ∀ xs : List α, noFrL (xs.flatMap f) = true
  | [] => rfl
  | x :: xs => by rw [List.flatMap_cons, noFrL_append, h x, noFrL_flatMap h xs]; rfl
theorem len_flatMap {α : Type} {f : α → List D} {n : Nat} (h : ∀ x, (f x).length = n) : ∀ xs : List α, (xs.flatMap f).length = xs.length * n
  | [] => by simp
  | x :: xs => by rw [List.flatMap_cons, List.length_append, h x, len_flatMap h xs, List.length_cons, Nat.succ_mul]; omega
theorem eI_ok : EncOk eI := ⟨fun _ => rfl, fun _ => rfl, fun _ => rfl, fun _ => rfl, fun _ => rfl, fun _ _ _ => .cons .v .nil⟩
theorem eS_ok {α : Type} {e : Enc α} (h : EncOk e) : EncOk (eS e) :=
  ⟨fun _ => rfl, fun _ => rfl, fun _ => rfl, fun _ => rfl, fun _ => rfl, fun st B xs => .cons (.fr (.flatMap (fun x => h.bor st B x) xs)) .nil⟩
theorem BorC.same {st : St} {B : List Nat} : ∀ {ds : List D}, menL ds = [] → noFrL ds = true → BorC st B ds ds
  | [], _, _ => .nil
  | d :: ds, hm, hf => by
    simp only [menL, List.append_eq_nil_iff] at hm
    simp only [noFrL, Bool.and_eq_true] at hf
    exact .cons (.same hm.1 hf.1) (BorC.same hm.2 hf.2)
def EncNb {α : Type} (e : Enc α) : Prop := ∀ x, NoBorL (e.o x)
theorem eI_nb : EncNb eI := fun _ => .cons .v .nil
theorem eS_nb {α : Type} {e : Enc α} (h : EncNb e) : EncNb (eS e) := fun xs => .cons (.fr (.flatMap h xs)) .nil
theorem eC_nb {α γ : Type} {e : Enc α} (h : EncNb e) (f : γ → α) : EncNb (eC e f) := fun x => h (f x)
theorem eA_nb {γ : Type} {e e' : Enc γ} (h : EncNb e) (h' : EncNb e') : EncNb (eA e e') := fun x => .append (h x) (h' x)
section
variable {α : Type} {e : Enc α}
theorem flat_split {f : α → List D} {n : Nat} (hn : ∀ x, (f x).length = n) : ∀ {xs : List α} {k : Nat} {x : α}, xs[k]? = some x → ∃ pre post, xs.flatMap f = pre ++ f x ++ post ∧ pre.length = k * n
  | [], k, x, h => by simp at h
  | y :: xs, 0, x, h => by simp at h; subst h; exact ⟨[], xs.flatMap f, by simp, by simp⟩
  | y :: xs, k + 1, x, h => by
    obtain ⟨pre, post, e1, e2⟩ := flat_split hn (xs := xs) (k := k) (x := x) (by simpa using h)
    refine ⟨f y ++ pre, post, by rw [List.flatMap_cons, e1]; simp, ?_⟩
    rw [List.length_append, hn y, e2, Nat.succ_mul]; omega
theorem at_b0 (h : EncOk e) {xs : List α} {i : Int} {x : α} (hx : xs[i.toNat]? = some x) {d : D} (hd : (e.b x)[0]? = some d) : (xs.flatMap e.b)[0 + i.toNat * e.sz]? = some d := by
  obtain ⟨pre, post, e1, e2⟩ := flat_split h.lenB hx
  have h0 : 0 < (e.b x).length := (List.getElem?_eq_some_iff.1 hd).1
  rw [e1, Nat.zero_add, ← e2, List.append_assoc, List.getElem?_append_right (Nat.le_refl _), Nat.sub_self, List.getElem?_append_left h0]
  exact hd
theorem at_o0 (h : EncOk e) {xs : List α} {i : Int} {x : α} (hx : xs[i.toNat]? = some x) {d : D} (hd : (e.o x)[0]? = some d) : (xs.flatMap e.o)[0 + i.toNat * e.sz]? = some d := by
  obtain ⟨pre, post, e1, e2⟩ := flat_split h.lenO hx
  have h0 : 0 < (e.o x).length := (List.getElem?_eq_some_iff.1 hd).1
  rw [e1, Nat.zero_add, ← e2, List.append_assoc, List.getElem?_append_right (Nat.le_refl _), Nat.sub_self, List.getElem?_append_left h0]
  exact hd
theorem sub_b (h : EncOk e) {xs : List α} {i : Int} {x : α} (hx : xs[i.toNat]? = some x) : ((xs.flatMap e.b).drop (0 + i.toNat * e.sz)).take e.sz = e.b x := by
  obtain ⟨pre, post, e1, e2⟩ := flat_split h.lenB hx
  rw [e1, Nat.zero_add, ← e2, List.append_assoc, List.drop_left, ← h.lenB x, List.take_left]
theorem Pass.el {ρ : Nat → Nat} (h : EncOk e) {xs : List α} {i : Int} {x : α} (hx : xs[i.toNat]? = some x) : Pass ρ (.pt (xs.flatMap e.b) (0 + i.toNat * e.sz)) (.pt (e.b x) 0) := by
  refine Pass.pt ?_ (sub_b h hx) (h.lenB x)
  have := (List.getElem?_eq_some_iff.1 hx).1
  rw [len_flatMap h.lenB, Nat.zero_add]
  exact Nat.mul_le_mul_right _ (Nat.le_of_lt this)
theorem flat_snoc (f : α → List D) (xs : List α) (x : α) : xs.flatMap f ++ f x = (xs ++ [x]).flatMap f := by simp
theorem flat_app (f : α → List D) (xs ys : List α) : xs.flatMap f ++ ys.flatMap f = (xs ++ ys).flatMap f := by simp
theorem take_all {ds : List D} {n : Nat} (h : ds.length = n) : (ds.drop 0).take n = ds := by simp [← h]
theorem app_take {f g : α → List D} {n : Nat} (hn : ∀ x, (g x).length = n) (hfg : ∀ x, g x = f x) (xs ys : List α) : xs.flatMap f ++ ((ys.flatMap g).drop 0).take (ys.length * n) = (xs ++ ys).flatMap f := by
  have : g = f := funext hfg
  subst this
  rw [take_all (len_flatMap hn ys), flat_app]
theorem len_take {g : α → List D} {n : Nat} (hn : ∀ x, (g x).length = n) (ys : List α) : (((ys.flatMap g).drop 0).take (ys.length * n)).length = ys.length * n := by
  rw [take_all (len_flatMap hn ys), len_flatMap hn]
theorem noFr_take {g : α → List D} {n : Nat} (hn : ∀ x, (g x).length = n) (hf : ∀ x, noFrL (g x) = true) (ys : List α) : noFrL (((ys.flatMap g).drop 0).take (ys.length * n)) = true := by
  rw [take_all (len_flatMap hn ys), noFrL_flatMap hf]
theorem repl_flat {zs : List Value} {f : α → List D} {z : α} (h : zs.map D.v = f z) (n : Nat) : repl n zs = (List.replicate n z).flatMap f := by
  unfold repl
  rw [h]
  induction n with
  | zero => rfl
  | succ n ih => rw [List.replicate_succ, List.replicate_succ, List.flatten_cons, List.flatMap_cons, ih]
theorem SubL.append {a a' b b' : List D} (h : SubL a a') (h' : SubL b b') : SubL (a ++ b) (a' ++ b') := fun w S β ys F hr => by
  obtain ⟨y1, y2, F1, F2, rfl, rfl, h1, h2⟩ := RepL_append hr
  exact RepL_append_mk (h _ _ _ _ _ h1) (h' _ _ _ _ _ h2)
theorem subl_repl {zs : List Value} {f : α → List D} {z : α} (h : SubL (zs.map D.v) (f z)) : ∀ n, SubL (repl n zs) ((List.replicate n z).flatMap f)
  | 0 => .nil
  | n + 1 => by
    have : repl (n + 1) zs = zs.map D.v ++ repl n zs := by simp [repl, List.replicate_succ]
    rw [this, List.replicate_succ, List.flatMap_cons]
    exact .append h (subl_repl h n)
theorem set_flat {f : α → List D} {n : Nat} (hn : ∀ x, (f x).length = n) : ∀ {xs : List α} {k : Nat} {x y : α}, xs[k]? = some x → (xs.flatMap f).take (0 + k * n) ++ f y ++ (xs.flatMap f).drop (0 + k * n + n) = (xs.set k y).flatMap f
  | [], k, x, y, h => by simp at h
  | z :: xs, 0, x, y, h => by
    simp only [Nat.zero_mul, Nat.add_zero, List.take_zero, List.nil_append, List.flatMap_cons, List.set_cons_zero, Nat.zero_add]
    rw [← hn z, List.drop_left]
  | z :: xs, k + 1, x, y, h => by
    have ih := set_flat hn (xs := xs) (k := k) (x := x) (y := y) (by simpa using h)
    have e1 : 0 + (k + 1) * n = (f z).length + (0 + k * n) := by rw [hn z, Nat.succ_mul]; omega
    rw [List.flatMap_cons, List.set_cons_succ, List.flatMap_cons, ← ih, e1, List.take_length_add_append, Nat.add_assoc, List.drop_length_add_append]
    simp
end
section
variable {P : Program} {T : Tab} {N np : Nat} {st : St} {Q : Post}
theorem imp_cvD {k : Nat} {d d' : D} (h : d = d') (hk : look st k = some (.d d)) : Imp np st ((k, .d d') :: st) := imp_conv hk (Sub.of_eq h)
theorem imp_cvE {r sz : Nat} {cells cells' : List D} {refs : List Nat} (h : cells = cells') (hm : menL cells' = []) (hk : look st (2 * r + 1) = some (.r (.arr sz cells refs))) : Imp np st ((2 * r + 1, .r (.arr sz cells' [])) :: st) :=
  imp_convR hk (SubL.of_eq h) (fun e => by rw [← h, e]) (by rw [hm]; simp)
theorem imp_cvL {r sz : Nat} {cells cells' : List D} {refs : List Nat} (h : SubL cells cells') (hl : cells = [] → cells' = []) (hm : menL cells' = []) (hk : look st (2 * r + 1) = some (.r (.arr sz cells refs))) : Imp np st ((2 * r + 1, .r (.arr sz cells' [])) :: st) :=
  imp_convR hk h hl (by rw [hm]; simp)
theorem imp_cvB {r sz : Nat} {cells cells' : List D} {refs refs' : List Nat} (h : SubL cells cells') (hl : Nat.beq cells.length cells'.length = true) (hs : (subRefs (menL cells') refs && subRefs (menL cells') refs') = true)
    (hk : look st (2 * r + 1) = some (.r (.arr sz cells refs))) : Imp np st ((2 * r + 1, .r (.arr sz cells' refs')) :: st) :=
  imp_convR hk h (fun e => by
    have := Nat.eq_of_beq_eq_true hl
    rw [e] at this
    exact List.eq_nil_of_length_eq_zero this.symm) (fun m hm => by
    simp only [Bool.and_eq_true] at hs
    exact ⟨List.all_eq_true.1 hs.1 m hm, List.all_eq_true.1 hs.2 m hm⟩)
theorem imp_dem {r q sz sz' n j : Nat} {pre l post ds : List D} {refs refs' : List Nat} (hpre : menL pre = []) (hpost : menL post = []) (hl : ds.length = n * sz') (hne : Nat.beq r q = false) (hc : l[j]? = some (.rs q 0 n))
    (hs : (subRefs (menL (l.set j (.fr sz' n ds))) refs' && subRefs refs' refs) = true) (hr : look st (2 * r + 1) = some (.r (.arr sz (pre ++ l ++ post) refs))) (hq : look st (2 * q + 1) = some (.r (.arr sz' ds []))) :
    Imp np st (updSt st [(2 * r + 1, some (.r (.arr sz (pre ++ l.set j (.fr sz' n ds) ++ post) refs'))), (2 * q + 1, none)]) := by
  have hj : j < l.length := (List.getElem?_eq_some_iff.1 hc).1
  have e : (pre ++ l ++ post).set (pre.length + j) (.fr sz' n ds) = pre ++ l.set j (.fr sz' n ds) ++ post := by
    rw [List.append_assoc, List.append_assoc, List.set_append, if_neg (by omega), Nat.add_sub_cancel_left, List.set_append, if_pos hj]
  have h := imp_demote (np := np) (i := pre.length + j) (refs' := refs') hr hq (Nat.ne_of_beq_eq_false hne) (by rw [List.append_assoc, List.getElem?_append_right (by omega), Nat.add_sub_cancel_left, List.getElem?_append_left hj]; exact hc) hl (by
    rw [e]
    intro m hm
    rw [menL_append, menL_append, hpre, hpost] at hm
    simp only [List.nil_append, List.append_nil] at hm
    simp only [Bool.and_eq_true] at hs
    have h1 := List.all_eq_true.1 hs.1 m hm
    exact ⟨List.all_eq_true.1 hs.2 m (by simpa using h1), h1⟩)
  rw [e] at h
  exact h
theorem Tr.by {c : Code} {st' : St} (h : Imp np st st') (h' : Tr P N np c st' Q) : Tr P N np c st Q := Tr.imp h h'
theorem tr_condTe {t : Nat} {x y : Code} {e : Bool} (he : e = true) (hc : look st (2 * t) = some (.d (.v (.bool e)))) (h : Tr P N np x st Q) : Tr P N np (.cond (.tmp t) x y) st Q := tr_condT (he ▸ hc) h
theorem tr_condFe {t : Nat} {x y : Code} {e : Bool} (he : e = false) (hc : look st (2 * t) = some (.d (.v (.bool e)))) (h : Tr P N np y st Q) : Tr P N np (.cond (.tmp t) x y) st Q := tr_condF (he ▸ hc) h
def RetG (T : Tab) (fn : Func) (np : Nat) (rout : List (Nat × Root)) (res : D) (st : St) : Prop := ∃ st', Imp np st st' ∧ RetQ T fn np rout res st'
def retG (T : Tab) (fn : Func) (np : Nat) (rout : List (Nat × Root)) (res : D) : Post
  | .normal, st => RetG T fn np rout res st
  | .ret, st => RetG T fn np rout res st
  | _, _ => False
theorem fnc_startG {f : FuncId} {fn : Func} {c : Code} {rin rout : List (Nat × Root)} {args : List D} {res : D} (hT : TabOk P T) (hf : P.funcs[f]? = some fn) (hb : fn.body = some c) (hN : fn.ntmps = N) (hk : Nat.ble args.length N = true) (h : Tr P N np c (argSt 0 args ++ rootSt rin) (retG T fn np rout res)) : FnC P f rin args rout res := by
  refine fnc_start (np := np) hT hf hb hN hk ?_
  intro Γ hN hn a w hs
  refine wp_mono (h Γ hN hn a w hs) fun e a' w' ⟨s, hq, hs'⟩ => ?_
  cases e with
  | normal => obtain ⟨s', hi, hr⟩ := hq; exact ⟨s', hr, hi Γ hn a' w' hs'⟩
  | ret => obtain ⟨s', hi, hr⟩ := hq; exact ⟨s', hr, hi Γ hn a' w' hs'⟩
  | exit id => exact hq.elim
  | goto l => exact hq.elim
  | panic ch => exact hq.elim
  | outgrown => exact hq.elim
theorem rg_r {fn : Func} {rout : List (Nat × Root)} {res : D} (h : RetG T fn np rout res st) : retG T fn np rout res .ret st := h
theorem rg_n {fn : Func} {rout : List (Nat × Root)} {res : D} (h : RetG T fn np rout res st) : retG T fn np rout res .normal st := h
theorem RetG.by {fn : Func} {rout : List (Nat × Root)} {res : D} {st' : St} (h : Imp np st st') (h' : RetG T fn np rout res st') : RetG T fn np rout res st := by
  obtain ⟨s, h1, h2⟩ := h'
  exact ⟨s, h.trans h1, h2⟩
theorem retg {fn : Func} {names : List Nat} {rout : List (Nat × Root)} {res : D} {cs : List Prop} (hc : AllP cs) (h : retRun T np st fn.results.toList names = some (res, rout, cs)) : RetG T fn np rout res st := ⟨st, Imp.refl st, retq hc h⟩
theorem TrL.by {n : Nat} {c : Code} {st' : St} (h : Imp np st st') (h' : TrL P N np n c st' Q) : TrL P N np n c st Q := TrL.imp h h'
def joinM {σ ρ : Type} (k : σ → Option ρ) (x : (σ → Option ρ) → Option ρ) : Option ρ := x k
theorem tr_joinM {σ ρ : Type} {k : σ → Option ρ} {X : (σ → Option ρ) → Option ρ} {r : ρ} {x y : Code} (enc : σ → St) (hM : joinM k X = some r) (hk : ∀ s, k s = some r → Tr P N np y (enc s) Q)
    (h : ∀ k' : σ → Option ρ, (∀ s, k' s = some r → Tr P N np y (enc s) Q) → X k' = some r → Tr P N np x st (thenQ P N np y Q)) : Tr P N np (.seq x y) st Q := tr_seq (h k hk hM)
theorem tr_start {c : Code} {st' : St} {ks : List Nat} (h : selSt st ks = some st') (h' : Tr P N np c st' Q) : Tr P N np c st Q := Tr.imp (imp_sel h) h'
theorem trl_start {n : Nat} {c : Code} {st' : St} {ks : List Nat} (h : selSt st ks = some st') (h' : TrL P N np n c st' Q) : TrL P N np n c st Q := TrL.imp (imp_sel h) h'
end
section
variable {α : Type} {e : Enc α}
theorem bor_flat (h : EncOk e) (st : St) (B : List Nat) (xs : List α) : BorC st B (xs.flatMap e.o) (xs.flatMap e.b) := .flatMap (fun x => h.bor st B x) xs
theorem menO_flat (h : EncOk e) (xs : List α) : menL (xs.flatMap e.o) = [] := menL_flatMap h.menO xs
theorem lenO_flat (h : EncOk e) (xs : List α) : (xs.flatMap e.o).length = xs.length * e.sz := len_flatMap h.lenO xs
theorem nb_flat (h : EncNb e) (xs : List α) : NoBorL (xs.flatMap e.o) := .flatMap h xs
theorem pass_sub {ρ : Nat → Nat} {d d' : D} (hm : d'.men = []) (h : Sub d d') : Pass ρ d d' := fun w S β y hr => Rep.beta d' y [] (by rw [hm]; simp) (h _ _ _ _ _ hr)
theorem len_snoc (xs : List α) (x : α) : xs.length + 1 = (xs ++ [x]).length := by simp
theorem len_app (xs ys : List α) : xs.length + ys.length = (xs ++ ys).length := by simp
end
section
variable {α : Type} {e : Enc α}
theorem store_le (h : EncOk e) {xs : List α} {i : Int} {x : α} (hx : xs[i.toNat]? = some x) : 0 + i.toNat * e.sz + e.sz ≤ (xs.flatMap e.o).length := by
  have h1 := (List.getElem?_eq_some_iff.1 hx).1
  rw [lenO_flat h, Nat.zero_add, ← Nat.succ_mul]
  exact Nat.mul_le_mul_right _ h1
theorem menO_take (h : EncOk e) (xs : List α) (k : Nat) : menL ((xs.flatMap e.o).take k) = [] := by
  cases hm : menL ((xs.flatMap e.o).take k) with
  | nil => rfl
  | cons m l =>
    have := menL_take_sub (xs.flatMap e.o) k m (by rw [hm]; simp)
    rw [menO_flat h] at this; cases this
theorem menO_drop (h : EncOk e) (xs : List α) (k : Nat) : menL ((xs.flatMap e.o).drop k) = [] := by
  cases hm : menL ((xs.flatMap e.o).drop k) with
  | nil => rfl
  | cons m l =>
    have := menL_drop_sub (xs.flatMap e.o) k m (by rw [hm]; simp)
    rw [menO_flat h] at this; cases this
theorem repl_hl {zs : List Value} {f : α → List D} {z : α} {n : Nat} (hz : Nat.ble 1 zs.length = true) : repl n zs = [] → (List.replicate n z).flatMap f = [] := by
  intro h
  have hz := Nat.le_of_ble_eq_true hz
  cases n with
  | zero => rfl
  | succ n =>
    have : (repl (n + 1) zs).length = 0 := by rw [h]; rfl
    simp [repl] at this
    have h2 : zs.length ≤ (n + 1) * zs.length := Nat.le_mul_of_pos_left _ (by omega)
    omega
theorem set_at {l : List D} {k : Nat} {d : D} (h : k < l.length) : (l.set k d)[k]? = some d := by simp [h]
theorem lt_flat (h : EncOk e) {xs : List α} {i : Int} {x : α} (hs : Nat.beq e.sz 1 = true) (hx : xs[i.toNat]? = some x) : 0 + i.toNat * e.sz < (xs.flatMap e.o).length := by
  have := store_le h hx
  have := Nat.eq_of_beq_eq_true hs
  omega
theorem set_one {f : α → List D} {xs : List α} {k : Nat} {x y : α} {d d' : D} (hn : ∀ x, (f x).length = 1) (hx : xs[k]? = some x) (hy : f y = [d]) : ((xs.flatMap f).set (0 + k * 1) d').set (0 + k * 1) d = (xs.set k y).flatMap f := by
  rw [List.set_set, ← set_flat hn hx, hy]
  have h1 := (List.getElem?_eq_some_iff.1 hx).1
  have hl := len_flatMap hn xs
  rw [List.set_eq_take_append_cons_drop, if_pos (by omega)]
  simp
end
section
variable {P : Program} {N np : Nat} {st : St} {Q : Post}
theorem tr_iterS {σ ρ : Type} {body : σ → (σ → Option ρ) → Option ρ} {r : ρ} {k : Nat} {c : Code} (enc : σ → St) (s0 : σ) (ks : List Nat) (hs : selSt st ks = some (enc s0)) (hM : iter body k s0 = some r)
    (step : ∀ (n : Nat) (next : σ → Option ρ), (∀ s, next s = some r → TrL P N np n c (enc s) Q) → ∀ s, body s next = some r → Tr P N np c (enc s) (roundQ P N np n c Q)) : Tr P N np (.loop c) st Q :=
  tr_start hs (tr_iter enc s0 rfl hM step)
end
section
variable {np : Nat} {st : St}
theorem imp_demE {r q sz sz' n j : Nat} {pre l ds : List D} {refs refs' : List Nat} (hpre : menL pre = []) (hl : ds.length = n * sz') (hne : Nat.beq r q = false) (hc : l[j]? = some (.rs q 0 n))
    (hs : (subRefs (menL (l.set j (.fr sz' n ds))) refs' && subRefs refs' refs) = true) (hr : look st (2 * r + 1) = some (.r (.arr sz (pre ++ l) refs))) (hq : look st (2 * q + 1) = some (.r (.arr sz' ds []))) :
    Imp np st (updSt st [(2 * r + 1, some (.r (.arr sz (pre ++ l.set j (.fr sz' n ds)) refs'))), (2 * q + 1, none)]) := by
  have h := imp_dem (np := np) (post := []) hpre rfl hl hne hc hs (by rw [List.append_nil]; exact hr) hq
  rw [List.append_nil] at h
  exact h
theorem menL_app {a b : List D} (h : menL a = []) (h' : menL b = []) : menL (a ++ b) = [] := by rw [menL_append, h, h']; rfl
def NoBorT : List D → Prop
  | [] => True
  | d :: ds => NoBor d ∧ NoBorT ds
theorem nobor_mem : ∀ {ds : List D}, NoBorT ds → ∀ d ∈ ds, NoBor d
  | _ :: _, h, d, hd => by
    rcases List.mem_cons.1 hd with rfl | hd
    · exact h.1
    · exact nobor_mem h.2 d hd
theorem NoBorT.nil : NoBorT [] := trivial
theorem NoBorT.cons {d : D} {ds : List D} (h : NoBor d) (h' : NoBorT ds) : NoBorT (d :: ds) := ⟨h, h'⟩
theorem nobor_tup {ds : List D} (h : NoBorT ds) : NoBor (.tup ds) := .tup (nobor_mem h)
end
section
variable {np : Nat} {st : St} {α : Type} {e : Enc α}
theorem imp_rowOut (h : EncOk (eS e)) {xs : List (List α)} {i : Int} {x : List α} {r q : Nat} (hx : xs[i.toNat]? = some x) (hr : look st (2 * r + 1) = some (.r (.arr 1 (xs.flatMap (eS e).o) []))) (hf : freshB np st q = true) :
    Imp np st ((2 * q + 1, .r (.arr e.sz (x.flatMap e.o) [])) :: (2 * r + 1, .r (.arr 1 ((xs.flatMap (eS e).o).set (0 + i.toNat * 1) (.rs q 0 x.length)) [q])) :: st) :=
  imp_promote hr (at_o0 h hx rfl) hf
theorem imp_rowBack (h : EncOk e) {xs : List (List α)} {i : Int} {x x' : List α} {r q n : Nat} (hx : xs[i.toNat]? = some x) (hn : n = x'.length) (hne : Nat.beq r q = false)
    (hr : look st (2 * r + 1) = some (.r (.arr 1 ((xs.flatMap (eS e).o).set (0 + i.toNat * 1) (.rs q 0 n)) [q]))) (hq : look st (2 * q + 1) = some (.r (.arr e.sz (x'.flatMap e.o) []))) :
    Imp np st (updSt st [(2 * r + 1, some (.r (.arr 1 ((xs.set i.toNat x').flatMap (eS e).o) []))), (2 * q + 1, none)]) := by
  subst hn
  have h1 : ((xs.flatMap (eS e).o).set (0 + i.toNat * 1) (D.rs q 0 x'.length)).set (0 + i.toNat * 1) (.fr e.sz x'.length (x'.flatMap e.o)) = (xs.set i.toNat x').flatMap (eS e).o :=
    set_one (f := (eS e).o) (fun _ => rfl) hx rfl
  have h2 := imp_demote (np := np) (i := 0 + i.toNat * 1) (refs' := []) hr hq (Nat.ne_of_beq_eq_false hne) (set_at (lt_flat (eS_ok h) (by rfl) hx)) (lenO_flat h x') (by rw [h1, menO_flat (eS_ok h)]; simp)
  rw [h1] at h2
  exact h2
theorem imp_rowSame (h : EncOk e) {xs : List (List α)} {i : Int} {x : List α} {r q n : Nat} (hx : xs[i.toNat]? = some x) (hn : n = x.length) (hne : Nat.beq r q = false)
    (hr : look st (2 * r + 1) = some (.r (.arr 1 ((xs.flatMap (eS e).o).set (0 + i.toNat * 1) (.rs q 0 n)) [q]))) (hq : look st (2 * q + 1) = some (.r (.arr e.sz (x.flatMap e.o) []))) :
    Imp np st (updSt st [(2 * r + 1, some (.r (.arr 1 (xs.flatMap (eS e).o) []))), (2 * q + 1, none)]) := by
  have h0 := imp_rowBack (np := np) h hx hn hne hr hq
  have : xs.set i.toNat x = xs := by
    obtain ⟨hl, he⟩ := List.getElem?_eq_some_iff.1 hx
    rw [← he, List.set_getElem_self]
  rw [this] at h0
  exact h0
end
theorem lenO_of {α : Type} {e : Enc α} (h : EncOk e) (xs : List α) {n : Nat} (hn : xs.length = n) : (xs.flatMap e.o).length = n * e.sz := hn ▸ lenO_flat h xs
theorem set_flatF {α : Type} {e : Enc α} (h : EncOk e) {xs : List (List α)} {k : Nat} {x y : List α} {n : Nat} (hx : xs[k]? = some x) (hn : y.length = n) :
    (xs.flatMap (eS e).o).take (0 + k * 1) ++ [D.fr e.sz n (y.flatMap e.o)] ++ (xs.flatMap (eS e).o).drop (0 + k * 1 + 1) = (xs.set k y).flatMap (eS e).o := by
  subst hn
  exact set_flat (eS_ok h).lenO hx
theorem tiok {P : Program} {t : Nat} {i : TI} (h1 : P.underlying t = some i.desc) (h2 : ((P.info? t).map fun inf => (inf.size, inf.bytes, inf.zero.map fun z => z.cells.toList)) = some (i.size, i.bytes, some i.zero)) : TIok P t i := by
  refine ⟨h1, ?_⟩
  cases h : P.info? t with
  | none => rw [h] at h2; cases h2
  | some inf =>
    rw [h] at h2
    simp only [Option.map_some, Option.some.injEq, Prod.mk.injEq] at h2
    obtain ⟨a, b, c⟩ := h2
    cases hz : inf.zero with
    | none => rw [hz] at c; cases c
    | some z =>
      rw [hz] at c
      simp only [Option.map_some, Option.some.injEq] at c
      exact ⟨inf, z, rfl, a, b, hz, c⟩
end Go.Gx
namespace Go.Gx
section
variable {κ β : Type} [DecidableEq κ]
end
structure KeyE (κ : Type) [DecidableEq κ] where
  d : TypeDesc
  e : κ → Value
  same : ∀ a b, sameK d (e a) (e b) = some (decide (a = b))
variable {κ β : Type} [DecidableEq κ]
variable {np : Nat} {st : St}
end Go.Gx
namespace Go.Gx
theorem wrap_in {x : Int} (h0 : -9223372036854775808 ≤ x) (h1 : x < 9223372036854775808) : IntKind.i64.wrap x = x := IntWalk.i64_in x ⟨h0, by omega⟩
end Go.Gx
namespace Go.Gx
def el {α : Type} [Inhabited α] (l : List α) (i : Int) : α := l.getD i.toNat default
theorem idx_el {α : Type} [Inhabited α] {l : List α} {i : Int} (h0 : 0 ≤ i) (h1 : i < (l.length : Int)) : idx l i = some (el l i) := by
  unfold idx el
  rw [if_pos h0, List.getD_eq_getElem?_getD]
  have h : i.toNat < l.length := by omega
  rw [List.getElem?_eq_getElem h]
  rfl
def Ret {ρ : Type} (x : Option ρ) (Q : ρ → Prop) : Prop := ∃ r, x = some r ∧ Q r
section
variable {ρ σ τ α β : Type} {Q : ρ → Prop}
theorem Ret.eq {x : Option ρ} {v : ρ} (h : Ret x fun r => r = v) : x = some v := by
  obtain ⟨r, e, rfl⟩ := h; exact e
theorem Ret.of {x : Option ρ} {v : ρ} (h : x = some v) (hq : Q v) : Ret x Q := ⟨v, h, hq⟩
theorem Ret.some {r : ρ} (h : Q r) : Ret (some r) Q := ⟨r, rfl, h⟩
theorem Ret.mono {x : Option ρ} {P : ρ → Prop} (h : Ret x P) (hq : ∀ r, P r → Q r) : Ret x Q := by
  obtain ⟨r, e, hr⟩ := h; exact ⟨r, e, hq r hr⟩
theorem Ret.idx [Inhabited α] {l : List α} {i : Int} {f : α → Option ρ} (h0 : 0 ≤ i) (h1 : i < (l.length : Int)) (h : Ret (f (el l i)) Q) : Ret ((idx l i).bind f) Q := by
  rw [idx_el h0 h1]; exact h
theorem Ret.ite {c : Prop} [Decidable c] {x y : Option ρ} (ht : c → Ret x Q) (he : ¬ c → Ret y Q) : Ret (if c then x else y) Q := by
  split
  · exact ht ‹_›
  · exact he ‹_›
theorem Ret.pos {c : Prop} [Decidable c] {x y : Option ρ} (h : c) (ht : Ret x Q) : Ret (if c then x else y) Q := by rw [if_pos h]; exact ht
theorem Ret.neg {c : Prop} [Decidable c] {x y : Option ρ} (h : ¬ c) (ht : Ret y Q) : Ret (if c then x else y) Q := by rw [if_neg h]; exact ht
theorem Ret.chk {p : Prop} [Decidable p] {x : Option ρ} (hp : p) (h : Ret x Q) : Ret (chk p x) Q := by
  unfold Go.Gx.chk; rw [if_pos hp]; exact h
theorem Ret.bind {x : Option α} {f : α → Option ρ} {P : α → Prop} (h : Ret x P) (hf : ∀ r, P r → Ret (f r) Q) : Ret (x.bind f) Q := by
  obtain ⟨r, rfl, hr⟩ := h; exact hf r hr
theorem Ret.call {x : Option α} {f : α → Option ρ} {v : α} (h : x = Option.some v) (hf : Ret (f v) Q) : Ret (x.bind f) Q := by
  subst h; exact hf
theorem Ret.probe {step : τ → (τ → Option ρ) → Option ρ} {n : Nat} {s : τ} (h : Ret (iter step n s) Q) : Ret (iter step n s) Q := h
theorem Ret.ask {x : Option Bool} {p : Prop} [Decidable p] (h : Ret x fun b => b = true ↔ p) : x = Option.some (decide p) := by
  obtain ⟨r, e, hr⟩ := h
  rw [e]; congr 1
  cases r with
  | true => exact (decide_eq_true (hr.1 rfl)).symm
  | false => exact (decide_eq_false fun hp => Bool.noConfusion (hr.2 hp)).symm
theorem Ret.loopN {step : τ → (τ → Option ρ) → Option ρ} (inv : Nat → τ → Prop) {n : Nat}
    (hgo : ∀ i s next, i < n → inv i s → (∀ s', inv (i + 1) s' → Ret (next s') Q) → Ret (step s next) Q) (hend : ∀ s next, inv n s → Ret (step s next) Q) :
    ∀ (m i : Nat) (s : τ) (fu : Nat), i + m = n → m < fu → inv i s → Ret (iter step fu s) Q
  | _, i, s, 0, _, h, _ => by omega
  | 0, i, s, fu + 1, hn, _, hi => by
    obtain rfl : i = n := by omega
    exact hend s _ hi
  | m + 1, i, s, fu + 1, hn, h, hi => hgo i s _ (by omega) hi fun s' hs' => Ret.loopN inv hgo hend m (i + 1) s' fu (by omega) (by omega) hs'
theorem Ret.loop {step : τ → (τ → Option ρ) → Option ρ} {s0 : τ} (n : Int) (inv : Int → τ → Prop) (hn : 0 ≤ n) (hf : n < 4294967296) (h0 : inv 0 s0)
    (hgo : ∀ i s next, 0 ≤ i → i < n → inv i s → (∀ s', inv (i + 1) s' → Ret (next s') Q) → Ret (step s next) Q) (hend : ∀ s next, inv n s → Ret (step s next) Q) :
    Ret (iter step fuel s0) Q := by
  refine Ret.loopN (n := n.toNat) (fun i s => inv (i : Int) s) ?_ ?_ n.toNat 0 s0 fuel (by omega) (by unfold fuel; omega) h0
  · intro i s next hi hs hnext
    exact hgo i s next (by omega) (by omega) hs fun s' hs' => hnext s' (by push_cast; exact hs')
  · intro s next hs
    rw [Int.toNat_of_nonneg hn] at hs
    exact hend s next hs
theorem Ret.all {step : Int → (Int → Option ρ) → Option ρ} (n : Int) (P : Int → Prop) (hn : 0 ≤ n) (hf : n < 4294967296)
    (hgo : ∀ i next, 0 ≤ i → i < n → (∀ j, 0 ≤ j → j < i → P j) → (P i → Ret (next (IntKind.i64.wrap (i + 1))) Q) → Ret (step i next) Q)
    (hend : ∀ next, (∀ j, 0 ≤ j → j < n → P j) → Ret (step n next) Q) : Ret (iter step fuel 0) Q := by
  refine Ret.loop n (fun i s => s = i ∧ ∀ j, 0 ≤ j → j < i → P j) hn hf ⟨rfl, fun j h0 h1 => by omega⟩ ?_ ?_
  · rintro i s next h0 h1 ⟨rfl, hp⟩ hnext
    refine hgo _ next h0 h1 hp fun hP => hnext _ ⟨wrap_in (by omega) (by omega), fun j hj0 hj1 => ?_⟩
    by_cases hj : j = s
    · subst hj; exact hP
    · exact hp j hj0 (by omega)
  · rintro s next ⟨rfl, hp⟩
    exact hend next hp
theorem Ret.acc {step : α × Int → (α × Int → Option ρ) → Option ρ} {a0 : α} (n : Int) (inv : Int → α → Prop) (hn : 0 ≤ n) (hf : n < 4294967296) (h0 : inv 0 a0)
    (hgo : ∀ i a next, 0 ≤ i → i < n → inv i a → (∀ a', inv (i + 1) a' → Ret (next (a', IntKind.i64.wrap (i + 1))) Q) → Ret (step (a, i) next) Q)
    (hend : ∀ a next, inv n a → Ret (step (a, n) next) Q) : Ret (iter step fuel (a0, 0)) Q := by
  refine Ret.loop n (fun i s => s.2 = i ∧ inv i s.1) hn hf ⟨rfl, h0⟩ ?_ ?_
  · rintro i ⟨a, s⟩ next h0 h1 ⟨rfl, hp⟩ hnext
    exact hgo s a next h0 h1 hp fun a' ha => hnext _ ⟨wrap_in (by dsimp only at *; omega) (by dsimp only at *; omega), ha⟩
  · rintro ⟨a, s⟩ next ⟨rfl, hp⟩
    exact hend a next hp
end
section
variable {α β : Type}
def tab (n : Int) (f : Int → α) : List α := (List.range n.toNat).map fun (k : Nat) => f (k : Int)
@[simp] theorem tab_length (n : Int) (f : Int → α) : (tab n f).length = n.toNat := by simp [tab]
@[simp] theorem tab_zero (f : Int → α) : tab 0 f = [] := rfl
theorem tab_succ {i : Int} (f : Int → α) (h : 0 ≤ i) : tab (i + 1) f = tab i f ++ [f i] := by
  unfold tab
  rw [show (i + 1).toNat = i.toNat + 1 by omega, List.range_succ, List.map_append]
  simp [Int.toNat_of_nonneg h]
theorem tab_get? (n : Int) (f : Int → α) (k : Nat) : (tab n f)[k]? = if (k : Int) < n then some (f k) else none := by
  unfold tab
  rw [List.getElem?_map]
  by_cases h : (k : Int) < n
  · rw [List.getElem?_range (by omega), if_pos h]; rfl
  · rw [List.getElem?_eq_none (by simp; omega), if_neg h]; rfl
theorem el_tab [Inhabited α] {n : Int} {f : Int → α} {i : Int} (h0 : 0 ≤ i) (h1 : i < n) : el (tab n f) i = f i := by
  unfold el
  rw [List.getD_eq_getElem?_getD, tab_get?]
  simp [Int.toNat_of_nonneg h0, h1]
theorem tab_congr {n : Int} {f g : Int → α} (h : ∀ i, 0 ≤ i → i < n → f i = g i) : tab n f = tab n g := by
  unfold tab
  apply List.map_congr_left
  intro k hk
  have := List.mem_range.1 hk
  exact h k (by omega) (by omega)
theorem tab_el [Inhabited α] (l : List α) : tab (l.length : Int) (el l) = l := by
  apply List.ext_getElem?
  intro k
  rw [tab_get?]
  split
  · rename_i h
    have : k < l.length := by omega
    simp [el, this]
  · rename_i h
    rw [List.getElem?_eq_none (by omega)]
theorem set_tab {n : Int} {f : Int → α} {i : Int} {v : α} (h0 : 0 ≤ i) : (tab n f).set i.toNat v = tab n fun j => if j = i then v else f j := by
  apply List.ext_getElem?
  intro k
  rw [List.getElem?_set, tab_get?, tab_get?, tab_length]
  by_cases hk : (k : Int) = i
  · have e : i.toNat = k := by omega
    rw [if_pos e]
    by_cases hn : (k : Int) < n
    · rw [if_pos (by omega), if_pos hn, if_pos hk]
    · rw [if_neg (by omega), if_neg hn]
  · rw [if_neg (by omega), if_neg hk]
theorem rep_tab (n : Int) (z : α) : List.replicate n.toNat z = tab n fun _ => z := by
  unfold tab
  rw [List.map_const']; simp
def fil (n : Int) (p : Int → Bool) : List Int := ((List.range n.toNat).map fun (k : Nat) => (k : Int)).filter p
@[simp] theorem fil_zero (p : Int → Bool) : fil 0 p = [] := rfl
theorem fil_succ {i : Int} (p : Int → Bool) (h : 0 ≤ i) : fil (i + 1) p = fil i p ++ (if p i then [i] else []) := by
  unfold fil
  rw [show (i + 1).toNat = i.toNat + 1 by omega, List.range_succ, List.map_append, List.filter_append]
  simp [Int.toNat_of_nonneg h, List.filter_cons]
theorem fil_congr {n : Int} {p q : Int → Bool} (h : ∀ i, 0 ≤ i → i < n → p i = q i) : fil n p = fil n q := by
  unfold fil
  apply List.filter_congr
  intro x hx
  obtain ⟨k, hk, rfl⟩ := List.mem_map.1 hx
  have := List.mem_range.1 hk
  exact h k (by omega) (by omega)
theorem fil_length_le (n : Int) (p : Int → Bool) : (fil n p).length ≤ n.toNat := by
  unfold fil
  refine Nat.le_trans (List.length_filter_le _ _) ?_
  simp
theorem fil_mem {n : Int} {p : Int → Bool} {x : Int} : x ∈ fil n p ↔ 0 ≤ x ∧ x < n ∧ p x = true := by
  unfold fil
  rw [List.mem_filter, List.mem_map]
  constructor
  · rintro ⟨⟨k, hk, rfl⟩, hp⟩
    have := List.mem_range.1 hk
    exact ⟨by omega, by omega, hp⟩
  · rintro ⟨h0, h1, hp⟩
    exact ⟨⟨x.toNat, List.mem_range.2 (by omega), by omega⟩, hp⟩
theorem el_mem [Inhabited α] {l : List α} {i : Int} (h0 : 0 ≤ i) (h1 : i < (l.length : Int)) : el l i ∈ l := by
  have h : i.toNat < l.length := by omega
  unfold el
  rw [List.getD_eq_getElem?_getD, List.getElem?_eq_getElem h]
  exact List.getElem_mem h
theorem mem_el [Inhabited α] {l : List α} {x : α} (h : x ∈ l) : ∃ i, 0 ≤ i ∧ i < (l.length : Int) ∧ el l i = x := by
  obtain ⟨k, hk, rfl⟩ := List.mem_iff_getElem.1 h
  exact ⟨k, by omega, by omega, by simp [el, hk]⟩
theorem take_succ_el [Inhabited α] {l : List α} {i : Int} (h0 : 0 ≤ i) (h1 : i < (l.length : Int)) : l.take (i + 1).toNat = l.take i.toNat ++ [el l i] := by
  have h : i.toNat < l.length := by omega
  rw [show (i + 1).toNat = i.toNat + 1 by omega, List.take_add_one, List.getElem?_eq_getElem h]
  simp [el, h]
end
end Go.Gx
namespace Go.Gx
theorem iter_pres {σ ρ : Type} {step : σ → (σ → Option ρ) → Option ρ} (I : σ → Prop) (Q : ρ → Prop) (h : ∀ s next r, I s → (∀ s', I s' → next s' = some r → Q r) → step s next = some r → Q r) :
    ∀ (n : Nat) (s : σ) (r : ρ), I s → iter step n s = some r → Q r
  | 0, _, _, _, h1 => by cases h1
  | n + 1, s, r, hs, h1 => h s (iter step n) r hs (fun s' hs' h2 => iter_pres I Q h n s' r hs' h2) h1
end Go.Gx
namespace Go.Gx
def allS (w : World) : Nat → Prop := fun b => b < w.heap.size
structure ReadsAs (P : Program) (t : TypeId) {α : Type} (e : Enc α) (R : α → Prop) : Prop where
  cells : P.cellsOf t = e.sz
  reads : ∀ {H : Type} {enc : TypeId × Value → H} {w : World} {base : Nat} {spare : Nat → Bool} {held : Bool} {fuel : Nat} {cs : List Value} {x : DataW H × List MemPlace},
    DataW.trod enc P w base spare held fuel t cs = some x → ∃ v, R v ∧ RepL w (allS w) (e.b v) noB cs []
def I64 (n : Int) : Prop := -9223372036854775808 ≤ n ∧ n ≤ 9223372036854775807
def AllL {α : Type} (R : α → Prop) (xs : List α) : Prop := (xs.length : Int) ≤ 9223372036854775807 ∧ ∀ x ∈ xs, R x
theorem wf_i64 {n : Int} (h : (Lit.int .i64 n).wf = true) : I64 n := by
  unfold Lit.wf at h
  rw [Bool.and_eq_true, decide_eq_true_eq, decide_eq_true_eq] at h
  have e1 : IntKind.i64.min = -9223372036854775808 := by decide
  have e2 : IntKind.i64.max = 9223372036854775807 := by decide
  rw [e1, e2] at h
  exact h
section
variable {P : Program} {t : TypeId}
theorem reads_int (ht : P.underlying t = some (.int .i64)) (hc : P.cellsOf t = 1) : ReadsAs P t eI I64 where
  cells := hc
  reads := fun h => by
    obtain ⟨n, rfl, _, hw⟩ := DataW.trod_int ht h
    exact ⟨n, wf_i64 hw, RepL_cons (F1 := []) (F2 := []) rfl (by unfold iv Rep; exact ⟨rfl, rfl⟩) RepL_nil⟩
theorem chop {α : Type} {e : Enc α} (hl : ∀ v, (e.b v).length = e.sz) {R : α → Prop} {w : World} {g : Nat → Option Value} : ∀ m : Nat,
    (∀ i, i < m → ∃ (v : α) (cs : List Value), R v ∧ cs.length = e.sz ∧ (∀ j, j < e.sz → g (i * e.sz + j) = cs[j]?) ∧ RepL w (allS w) (e.b v) noB cs []) →
    ∃ (vs : List α) (ys : List Value), vs.length = m ∧ (∀ v ∈ vs, R v) ∧ ys.length = m * e.sz ∧ (∀ j, j < m * e.sz → g j = ys[j]?) ∧ RepL w (allS w) (vs.flatMap e.b) noB ys []
  | 0, _ => ⟨[], [], rfl, by simp, by simp, by simp, by simpa using RepL_nil⟩
  | m + 1, h => by
    obtain ⟨vs, ys, h1, h2, h3, h4, h5⟩ := chop hl m fun i hi => h i (by omega)
    obtain ⟨v, cs, g1, g2, g3, g4⟩ := h m (by omega)
    refine ⟨vs ++ [v], ys ++ cs, by simp [h1], ?_, by rw [List.length_append, h3, g2, Nat.succ_mul], ?_, ?_⟩
    · intro x hx
      rcases List.mem_append.1 hx with hx | hx
      · exact h2 x hx
      · obtain rfl := List.mem_singleton.1 hx; exact g1
    · intro j hj
      rw [Nat.succ_mul] at hj
      by_cases hlt : j < m * e.sz
      · rw [List.getElem?_append_left (by omega)]; exact h4 j hlt
      · rw [List.getElem?_append_right (by omega), h3, ← g3 (j - m * e.sz) (by omega)]
        congr 1; omega
    · rw [List.flatMap_append]
      have := RepL_append_mk h5 g4
      simpa using this
theorem reads_slice {e : TypeId} {α : Type} {en : Enc α} {R : α → Prop} (ht : P.underlying t = some (.slice e)) (hc : P.cellsOf t = 1) (hpos : 0 < en.sz) (hok : EncOk en) (h : ReadsAs P e en R) :
    ReadsAs P t (eS en) (AllL R) where
  cells := hc
  reads := fun {H enc w base spare held fuel cs x} hd => by
    rcases DataW.trod_slice ht hd with ⟨rfl, _⟩ | ⟨a, len, cap, elems, rest, n, _, rfl, _, hb, hlc, hm, hlen, hel, _, _⟩
    · refine ⟨[], ⟨by simp, by simp⟩, RepL_cons (F1 := []) (F2 := []) rfl ?_ RepL_nil⟩
      unfold Rep
      exact ⟨rfl, rfl, none, 0, rfl, Nat.le_refl 0, .inl rfl⟩
    · have hpt : ∀ i, i < len → ∃ v cs, R v ∧ cs.length = en.sz ∧ (∀ j, j < en.sz → w.cell? (a.add (i * en.sz + j)) = cs[j]?) ∧ RepL w (allS w) (en.b v) noB cs [] := by
        intro i hi
        have h1 := hel i hi
        rw [List.getElem?_eq_getElem (by omega), Option.bind_eq_some_iff] at h1
        obtain ⟨cs, h2, h3⟩ := h1
        obtain ⟨_, h4, h5⟩ := World.cells?_some h2
        obtain ⟨v, h6, h7⟩ := h.reads h3
        rw [h.cells] at h4 h5
        refine ⟨v, cs, h6, h4, fun j hj => ?_, h7⟩
        rw [← h5 j hj]
        congr 1
        unfold Addr.add
        by_cases e1 : i * en.sz = 0 <;> by_cases e2 : j = 0 <;> simp [e1, e2]
        omega
      obtain ⟨vs, ys, g1, g2, g3, g4, g5⟩ := chop (R := R) (w := w) (g := fun j => w.cell? (a.add j)) hok.lenB len hpt
      refine ⟨vs, ⟨by unfold maxLen at hm; omega, g2⟩, RepL_cons (F1 := []) (F2 := []) rfl ?_ RepL_nil⟩
      unfold Rep
      refine ⟨rfl, menL_flatMap hok.menB vs, some a, cap, by rw [g1], by rw [g1]; exact hlc, ?_⟩
      by_cases h0 : len = 0
      · exact .inl (by rw [g1, h0])
      · right
        have hne : 0 < len * en.sz := Nat.mul_pos (by omega) hpos
        have hsome : ∀ j, j < len * en.sz → ∃ y, w.cell? (a.add j) = some y := fun j hj => ⟨ys[j]'(by omega), by rw [g4 j hj, List.getElem?_eq_getElem]⟩
        have hspot : a.spot = none := by
          obtain ⟨y, hy⟩ := hsome 0 hne
          exact World.cell?_spot hy
        obtain ⟨bk, off, sp⟩ := a
        obtain rfl : sp = none := hspot
        have hcell : ∀ j, j < len * en.sz → ∃ c E fz, w.heap[bk]? = some (.cells c E fz) ∧ c[off + j]? = ys[j]? := by
          intro j hj
          obtain ⟨y, hy⟩ := hsome j hj
          have hy2 := g4 j hj
          rw [hy] at hy2
          have ea : (Addr.add ⟨bk, off, none⟩ j) = ⟨bk, off + j, none⟩ := by
            unfold Addr.add; split
            · rename_i hz; simp
            · rfl
          rw [ea] at hy
          unfold World.cell? at hy
          split at hy
          · rename_i c E fz hh
            simp at hy
            exact ⟨c, E, fz, hh, by rw [hy, hy2]⟩
          · cases hy
        obtain ⟨c, E, fz, hh, _⟩ := hcell 0 hne
        have hall : ∀ j, j < len * en.sz → c[off + j]? = ys[j]? := by
          intro j hj
          obtain ⟨c', E', fz', hh', h'⟩ := hcell j hj
          rw [hh] at hh'
          cases hh'
          exact h'
        have hsz : off + len * en.sz ≤ c.size := by
          have h1 := hall (len * en.sz - 1) (by omega)
          rw [List.getElem?_eq_getElem (by omega)] at h1
          have := (Array.getElem?_eq_some_iff.1 h1).1
          omega
        refine ⟨bk, off, ys, by simp, ?_, ?_, g5⟩
        · show bk < w.heap.size
          exact (Array.getElem?_eq_some_iff.1 hh).1
        · refine ⟨c.toList.take off, c.toList.drop (off + len * en.sz), E, fz, ?_, by simp; omega⟩
          rw [hh]
          congr 2
          apply Array.ext'
          simp only []
          have hys : (c.toList.drop off).take (len * en.sz) = ys := by
            apply List.ext_getElem?
            intro j
            rw [List.getElem?_take]
            split
            · rename_i hj
              rw [List.getElem?_drop, Array.getElem?_toList]
              exact hall j hj
            · rename_i hj
              rw [List.getElem?_eq_none (by omega)]
          rw [← hys, List.append_assoc, ← List.drop_drop, List.take_append_drop, List.take_append_drop]
structure SegAs (P : Program) (fs : List Field) (off len : Nat) {α : Type} (e : Enc α) (R : α → Prop) : Prop where
  size : len = e.sz
  reads : ∀ {H : Type} {enc : TypeId × Value → H} {w : World} {base : Nat} {spare : Nat → Bool} {held : Bool} {fuel : Nat} {cs : List Value},
    (∀ f ∈ fs, ∃ x, DataW.trod enc P w base spare held fuel f.type ((cs.drop f.offset).take (P.cellsOf f.type)) = some x) → ∃ v, R v ∧ RepL w (allS w) (e.b v) noB ((cs.drop off).take len) []
def eX {α β : Type} (e : Enc α) (e' : Enc β) : Enc (α × β) := ⟨e.sz + e'.sz, fun x => e.b x.1 ++ e'.b x.2, fun x => e.o x.1 ++ e'.o x.2⟩
theorem seg_one {f : Field} {off : Nat} {α : Type} {e : Enc α} {R : α → Prop} (ho : f.offset = off) (h : ReadsAs P f.type e R) : SegAs P [f] off e.sz e R where
  size := rfl
  reads := fun hf => by
    obtain ⟨x, hx⟩ := hf f (by simp)
    rw [h.cells, ho] at hx
    exact h.reads hx
theorem seg_cons {f : Field} {fs : List Field} {off len : Nat} {α β : Type} {e : Enc α} {e' : Enc β} {R : α → Prop} {R' : β → Prop} (ho : f.offset = off) (h : ReadsAs P f.type e R)
    (h' : SegAs P fs (off + e.sz) len e' R') : SegAs P (f :: fs) off (e.sz + len) (eX e e') (fun x => R x.1 ∧ R' x.2) where
  size := by rw [h'.size]; rfl
  reads := fun {H enc w base spare held fuel cs} hf => by
    obtain ⟨x, hx⟩ := hf f (by simp)
    rw [h.cells, ho] at hx
    obtain ⟨v, h1, h2⟩ := h.reads hx
    obtain ⟨v', h3, h4⟩ := h'.reads fun g hg => hf g (by simp [hg])
    refine ⟨(v, v'), ⟨h1, h3⟩, ?_⟩
    have := RepL_append_mk h2 h4
    rw [← List.drop_drop] at this
    rw [List.take_add]
    simpa [eX] using this
theorem reads_struct {fs : Array Field} {α γ : Type} {e' : Enc α} {e : Enc γ} {R' : α → Prop} {len : Nat} (ht : P.underlying t = some (.struct fs)) (hc : P.cellsOf t = len) (hs : SegAs P fs.toList 0 len e' R') (mk : α → γ)
    (he : ∀ v, e.b (mk v) = e'.b v) (hz : e.sz = e'.sz) (R : γ → Prop) (hR : ∀ v, R' v → R (mk v)) : ReadsAs P t e R where
  cells := by rw [hc, hs.size, hz]
  reads := fun {H enc w base spare held fuel cs x} hd => by
    obtain ⟨xs, n, rfl, _, hl, hx, hf⟩ := DataW.trod_struct ht hd
    have hsz := hs.size
    obtain ⟨v, h1, h2⟩ := hs.reads (enc := enc) (w := w) (base := base) (spare := spare) (held := held) (fuel := n) (cs := cs) (by
      intro f hm
      obtain ⟨i, hi, rfl⟩ := List.mem_iff_getElem.1 hm
      have hi' : i < fs.size := by simpa using hi
      refine ⟨xs[i]'(by omega), ?_⟩
      rw [hf i fs.toList[i] (by simp [hi']), List.getElem?_eq_getElem])
    refine ⟨mk v, hR v h1, ?_⟩
    rw [he]
    rw [List.drop_zero, List.take_of_length_le (by omega)] at h2
    exact h2
end
end Go.Gx
namespace Go.Gx
def rsC (q : Nat) : List D → List D
  | [] => []
  | .fr _ n _ :: l => .rs q 0 n :: rsC (q + 1) l
  | d :: l => d :: rsC (q + 1) l
def rsR (q : Nat) : List D → List Nat
  | [] => []
  | .fr _ _ _ :: l => q :: rsR (q + 1) l
  | _ :: l => rsR (q + 1) l
def rsS (q : Nat) : List D → St
  | [] => []
  | .fr sz _ ds :: l => (2 * q + 1, .r (.arr sz ds [])) :: rsS (q + 1) l
  | _ :: l => rsS (q + 1) l
def bxB (k : Nat) (ds : List D) : Nat × Ent := (k, .r (.arr 1 ds []))
def bxO (k q : Nat) (ds : List D) : Nat × Ent := (k, .r (.arr 1 (rsC q ds) (rsR q ds)))
def rsP (q : Nat) : List D → List (Nat × Root)
  | [] => []
  | .fr sz _ ds :: l => (q, .arr sz ds []) :: rsP (q + 1) l
  | _ :: l => rsP (q + 1) l
theorem rsC_append : ∀ (q : Nat) (a b : List D), rsC q (a ++ b) = rsC q a ++ rsC (q + a.length) b
  | q, [], b => by simp [rsC]
  | q, d :: a, b => by
    have h := rsC_append (q + 1) a b
    rw [show q + 1 + a.length = q + (d :: a).length by simp; omega] at h
    cases d <;> simp only [List.cons_append, rsC, h]
theorem rsR_append : ∀ (q : Nat) (a b : List D), rsR q (a ++ b) = rsR q a ++ rsR (q + a.length) b
  | q, [], b => by simp [rsR]
  | q, d :: a, b => by
    have h := rsR_append (q + 1) a b
    rw [show q + 1 + a.length = q + (d :: a).length by simp; omega] at h
    cases d <;> simp only [List.cons_append, rsR, h]
theorem rsP_append : ∀ (q : Nat) (a b : List D), rsP q (a ++ b) = rsP q a ++ rsP (q + a.length) b
  | q, [], b => by simp [rsP]
  | q, d :: a, b => by
    have h := rsP_append (q + 1) a b
    rw [show q + 1 + a.length = q + (d :: a).length by simp; omega] at h
    cases d <;> simp only [List.cons_append, rsP, h]
theorem rsP_length : ∀ (q : Nat) (a : List D), (rsP q a).length = (rsR q a).length
  | _, [] => rfl
  | q, d :: a => by
    have h := rsP_length (q + 1) a
    cases d <;> simp only [rsP, rsR, List.length_cons, h]
theorem memB {B : List Nat} {r : Nat} (h : B.contains r = true) : r ∈ B := by simpa using h
def Lent (st : St) (B : List Nat) (q : Nat) (ds : List D) : Prop :=
  (rsR q ds).all B.contains = true ∧ (rsR q ds).map (fun r => look st (2 * r + 1)) = (rsP q ds).map fun p => some (.r p.2)
theorem Lent.split {st : St} {B : List Nat} {q : Nat} {a b : List D} (h : Lent st B q (a ++ b)) : Lent st B q a ∧ Lent st B (q + a.length) b := by
  obtain ⟨h1, h2⟩ := h
  rw [rsR_append, List.all_append, Bool.and_eq_true] at h1
  rw [rsR_append, rsP_append, List.map_append, List.map_append] at h2
  obtain ⟨h3, h4⟩ := List.append_inj h2 (by simp [rsP_length])
  exact ⟨⟨h1.1, h3⟩, ⟨h1.2, h4⟩⟩
def EncR {α : Type} (e : Enc α) : Prop := ∀ (st : St) (B : List Nat) (q : Nat) (x : α), Lent st B q (e.o x) → BorC st B (rsC q (e.o x)) (e.b x)
theorem eI_r : EncR eI := fun _ _ _ _ _ => .cons .v .nil
theorem eS_r {α : Type} {e : Enc α} (h : EncOk e) : EncR (eS e) := fun st B q x hl => by
  obtain ⟨h1, h2⟩ := hl
  have h1' : B.contains q = true := by
    have : [q].all B.contains = true := h1
    simpa using this
  have h2' : look st (2 * q + 1) = some (.r (.arr e.sz (x.flatMap e.o) [])) := by
    have : [look st (2 * q + 1)] = [some (.r (.arr e.sz (x.flatMap e.o) []))] := h2
    simpa using this
  exact .cons (.rs (by simpa using h1') h2' (bor_flat h st B x)) .nil
theorem eC_r {α γ : Type} {e : Enc α} (h : EncR e) (f : γ → α) : EncR (eC e f) := fun st B q x hl => h st B q (f x) hl
theorem eA_r {γ : Type} {e e' : Enc γ} (h : EncR e) (h' : EncR e') : EncR (eA e e') := fun st B q x hl => by
  have hl' : Lent st B q (e.o x ++ e'.o x) := hl
  obtain ⟨h1, h2⟩ := hl'.split
  show BorC st B (rsC q (e.o x ++ e'.o x)) (e.b x ++ e'.b x)
  rw [rsC_append]
  exact .append (h st B q x h1) (h' st B _ x h2)
theorem bor_rs {α : Type} {e : Enc α} {st : St} {B : List Nat} {ρ : Nat → Nat} {q : Nat} {x : α} (h : EncR e) (hB : (rsR q (e.o x)).all B.contains = true)
    (hl : (rsR q (e.o x)).map (fun r => look st (2 * r + 1)) = (rsP q (e.o x)).map fun p => some (.r p.2)) : Bor st B ρ (.agg (rsC q (e.o x))) (.agg (e.b x)) :=
  .agg (h st B q x ⟨hB, hl⟩)
end Go.Gx
