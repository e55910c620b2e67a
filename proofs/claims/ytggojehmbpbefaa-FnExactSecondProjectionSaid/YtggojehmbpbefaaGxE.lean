/- The other operations without memory: parts, structs, function values, lengths, conversions, slicing. -/
import Derived.Test.YtggojehmbpbefaaGxD
namespace Go.Gx
section
variable {P : Program} {o : Oper} {N t : Nat} {st : St} {T : Tab}

theorem RepT_nilF_get {w : World} {S : Nat → Prop} {β : Beta} {ds : List D} {ys : List Value} (h : RepT w S ds β ys []) {i : Nat} {d : D} (hd : ds[i]? = some d) :
    ∃ y, ys[i]? = some y ∧ Rep w S d β y [] := by
  induction ds generalizing ys i with
  | nil => simp at hd
  | cons d' ds ih =>
    unfold RepT at h
    obtain ⟨y, ys1, F1, F2, rfl, e, h1, h2⟩ := h
    simp only [List.nil_eq, List.append_eq_nil_iff] at e
    obtain ⟨rfl, rfl⟩ := e
    cases i with
    | zero => simp at hd; subst hd; exact ⟨y, by simp, h1⟩
    | succ i => simpa using ih h2 (by simpa using hd)

theorem opx_extract {x : Operand} {ix : Nat} {ds : List D} {d : D} (ho : o.op = .extract x ix) (hd : o.dst = some t) (ht : t < N) (hx : evD st x = .tup ds) (hc : ds[ix]? = some d) :
    OpX P o N (needOf st x) [(2 * t, some (.d d))] [] :=
  opx_val hd ht fun Γ g a w S β Fs hi hn => by
    have h1 := hi.eval hn
    rw [hx] at h1
    unfold Rep at h1
    obtain ⟨ys, e, h2⟩ := h1
    obtain ⟨y, hy, h3⟩ := RepT_nilF_get h2 hc
    exact ⟨y, by simp [execOp, ho, e, Instr.extract, hy], h3⟩

theorem opx_not {x : Operand} {b : Bool} {T' : TypeId} (ho : o.op = .unOp .not T' x) (hd : o.dst = some t) (ht : t < N) (hx : evD st x = .v (.bool b)) :
    OpX P o N (needOf st x) [(2 * t, some (.d (.v (.bool (!b)))))] [] :=
  opx_val hd ht fun Γ g a w S β Fs hi hn => by
    have h1 := hi.eval hn
    rw [hx, Rep_v] at h1
    exact ⟨.bool (!b), by simp [execOp, ho, h1.1, Op.unary], by simp [Rep_v]⟩

theorem opx_neg {x : Operand} {k : IntKind} {n : Int} {T' : TypeId} (ho : o.op = .unOp .neg T' x) (hd : o.dst = some t) (ht : t < N) (hx : evD st x = .v (.int k n)) :
    OpX P o N (needOf st x) [(2 * t, some (.d (.v (.int k (k.wrap (0 - n))))))] [] :=
  opx_val hd ht fun Γ g a w S β Fs hi hn => by
    have h1 := hi.eval hn
    rw [hx, Rep_v] at h1
    exact ⟨.int k (k.wrap (0 - n)), by simp [execOp, ho, h1.1, Op.unary, Op.intArith], by simp [Rep_v]⟩

theorem opx_convInt (hT : TabOk P T) {x : Operand} {k k' : IntKind} {n : Int} {s1 s2 : TypeId} {i1 i2 : TI} (ho : o.op = .convert s1 s2 x) (hd : o.dst = some t) (ht : t < N)
    (h1' : T.get s1 = some i1) (h2' : T.get s2 = some i2) (hk : i2.desc = .int k') (hx : evD st x = .v (.int k n)) :
    OpX P o N (needOf st x) [(2 * t, some (.d (.v (.int k' (k'.wrap n)))))] [] :=
  opx_val hd ht fun Γ g a w S β Fs hi hn => by
    have h1 := hi.eval hn
    rw [hx, Rep_v] at h1
    refine ⟨_, ?_, by rw [Rep_v]; exact ⟨rfl, rfl⟩⟩
    have e1 := (hT.get h1').und w
    have e2 := (hT.get h2').und w
    rw [hk] at e2
    simp only [execOp, ho, h1.1, convert]
    cases hd1 : i1.desc <;> simp [e1, e2, hd1, Conv.intToInt]

theorem opx_makeFunc {f : FuncId} {caps : Array Operand} (ho : o.op = .makeFunc (.func f) #[] caps) (hd : o.dst = some t) (ht : t < N)
    (hm : ∀ x ∈ caps.toList, hasRoots st (dRoot (evD st x)) = true) (hk : ∀ x ∈ caps.toList, (match evD st x with | .rp _ _ => true | .pt _ _ => true | _ => false) = true) :
    OpX P o N (needAll st caps.toList ++ caps.toList.flatMap fun x => needRoots st (dRoot (evD st x))) [(2 * t, some (.d (.fn f (caps.toList.map (evD st)))))] [] :=
  opx_val hd ht fun Γ g a w S β Fs hi hn => by
    rw [Needs.append] at hn
    refine ⟨.func (.func f) #[] (caps.map a.eval), by simp [execOp, ho, Instr.makeFunc], ?_⟩
    unfold Rep
    refine ⟨caps.toList.map a.eval, by rw [show caps.map a.eval = (caps.toList.map a.eval).toArray from by apply Array.ext'; simp], ?_⟩
    generalize caps.toList = l at *
    clear ho
    induction l with
    | nil => unfold RepL; exact ⟨rfl, rfl⟩
    | cons x l ih =>
      simp only [needAll, List.flatMap_cons, Needs.append] at hn
      have h1 := hi.eval hn.1.1
      refine RepL_cons (F1 := []) (F2 := []) ?_ h1 (ih (fun y hy => hm y (by simp [hy])) (fun y hy => hk y (by simp [hy])) ⟨hn.1.2, hn.2.2⟩)
      have h2 := hk x (by simp)
      have h3 := hi.root_known (hm x (by simp)) hn.2.1
      generalize evD st x = d at *
      cases d <;> simp at h2
      case rp r off =>
        unfold Rep at h1
        cases e : β r with
        | none => exact absurd e (h3 r (by simp [dRoot]))
        | nil => rw [e] at h1; exact h1.2.elim
        | blk b o' sz m => rw [e] at h1; rw [h1.2]; rfl
      case pt ds off =>
        unfold Rep at h1
        obtain ⟨_, _, b, o', ys, e, _⟩ := h1
        rw [e]; rfl

/-! ### len -/
def dLen : D → Option Int
  | .rs _ _ n => some n
  | .sl n _ _ => some n
  | .v (.string s) => some s.size
  | .v (.slice _ n _) => some n
  | .v (.map none) => some 0
  | _ => none

def lenable : TypeDesc → D → Bool
  | .slice _, .rs _ _ _ => true
  | .slice _, .sl _ _ _ => true
  | .slice _, .v (.slice _ _ _) => true
  | .string, .v (.string _) => true
  | .map _ _, .v (.map none) => true
  | _, _ => false

theorem opx_len (hT : TabOk P T) {x : Operand} {s : TypeId} {i : TI} {n : Int} (ho : o.op = .call ⟨.builtin .len, #[x], #[s]⟩) (hd : o.dst = some t) (ht : t < N)
    (hi' : T.get s = some i) (hl : lenable i.desc (evD st x) = true) (hx : dLen (evD st x) = some n) (hr : hasRoots st (dRoot (evD st x)) = true) :
    OpX P o N (needOf st x ++ needRoots st (dRoot (evD st x))) [(2 * t, some (.d (.v (.int .i64 n))))] [] :=
  opx_val hd ht fun Γ g a w S β Fs hi hn => by
    rw [Needs.append] at hn
    have h1 := hi.eval hn.1
    have h3 := hi.root_known hr hn.2
    have e1 := (hT.get hi').und w
    refine ⟨.int .i64 n, ?_, by simp [Rep_v]⟩
    simp only [execOp, ho]
    simp only [resolve, Sem.run_bind, Sem.run_pure, Result.andThen_ok, invoke, builtin]
    generalize evD st x = d at *
    generalize hdd : i.desc = dd at *
    unfold lenable at hl
    split at hl <;> simp at hl
    · rename_i r off m
      simp [dLen] at hx; subst hx
      unfold Rep at h1
      cases e : β r with
      | none => exact absurd e (h3 r (by simp [dRoot]))
      | nil => rw [e] at h1; obtain ⟨_, rfl, _, e2⟩ := h1; simp [Builtin.len_, e1, e2, goInt]
      | blk b o' sz m =>
        rw [e] at h1; obtain ⟨_, cap, e2, _⟩ := h1
        simp [Builtin.len_, e1, e2, goInt]
    · rename_i m off ds
      simp [dLen] at hx; subst hx
      unfold Rep at h1
      obtain ⟨_, _, aa, cap, e2, _⟩ := h1
      simp [Builtin.len_, e1, e2, goInt]
    · simp [dLen] at hx; subst hx
      rw [Rep_v] at h1
      simp [Builtin.len_, e1, h1.1, goInt]
    · simp [dLen] at hx; subst hx
      rw [Rep_v] at h1
      simp [Builtin.len_, e1, h1.1, goInt]
    · simp [dLen] at hx; subst hx
      rw [Rep_v] at h1
      simp [Builtin.len_, e1, h1.1, goInt]

theorem opx_max2 {x y : Operand} {k : IntKind} {m n : Int} {ts : Array TypeId} (ho : o.op = .call ⟨.builtin .max, #[x, y], ts⟩) (hd : o.dst = some t) (ht : t < N)
    (hx : evD st x = .v (.int k m)) (hy : evD st y = .v (.int k n)) :
    OpX P o N (needOf st x ++ needOf st y) [(2 * t, some (.d (.v (.int k (if n > m then n else m)))))] [] :=
  opx_val hd ht fun Γ g a w S β Fs hi hn => by
    rw [Needs.append] at hn
    have h1 := hi.eval hn.1
    have h2 := hi.eval hn.2
    rw [hx, Rep_v] at h1
    rw [hy, Rep_v] at h2
    refine ⟨_, ?_, by rw [Rep_v]; exact ⟨rfl, rfl⟩⟩
    simp only [execOp, ho]
    simp [resolve, invoke, builtin, Builtin.max_, Builtin.max2, h1.1, h2.1]

theorem opx_min2 {x y : Operand} {k : IntKind} {m n : Int} {ts : Array TypeId} (ho : o.op = .call ⟨.builtin .min, #[x, y], ts⟩) (hd : o.dst = some t) (ht : t < N)
    (hx : evD st x = .v (.int k m)) (hy : evD st y = .v (.int k n)) :
    OpX P o N (needOf st x ++ needOf st y) [(2 * t, some (.d (.v (.int k (if n < m then n else m)))))] [] :=
  opx_val hd ht fun Γ g a w S β Fs hi hn => by
    rw [Needs.append] at hn
    have h1 := hi.eval hn.1
    have h2 := hi.eval hn.2
    rw [hx, Rep_v] at h1
    rw [hy, Rep_v] at h2
    refine ⟨_, ?_, by rw [Rep_v]; exact ⟨rfl, rfl⟩⟩
    simp only [execOp, ho]
    simp [resolve, invoke, builtin, Builtin.min_, Builtin.min2, h1.1, h2.1]
end
end Go.Gx
