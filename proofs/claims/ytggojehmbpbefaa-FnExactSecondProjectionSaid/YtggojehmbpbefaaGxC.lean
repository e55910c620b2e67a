/- Operations that yield a value and leave the world alone. -/
import Derived.Test.YtggojehmbpbefaaGxB
import Derived.Laws.Sem
import Derived.Laws.Cells
import Derived.Laws.CopyRow
namespace Go.Gx

abbrev St := List (Nat × Ent)
def look : St → X
  | [] => fun _ => none
  | (k, e) :: r => fun q => if q = k then some e else look r q

def Needs (g : X) : List (Nat × Ent) → Prop
  | [] => True
  | p :: r => g p.1 = some p.2 ∧ Needs g r

theorem Needs.append {g : X} : ∀ {l l' : List (Nat × Ent)}, Needs g (l ++ l') ↔ Needs g l ∧ Needs g l'
  | [], _ => by simp [Needs]
  | p :: l, l' => by simp [Needs, Needs.append (l := l), and_assoc]

theorem Needs.mem {g : X} : ∀ {l : List (Nat × Ent)}, Needs g l → ∀ p ∈ l, g p.1 = some p.2
  | [], _, p, hp => by simp at hp
  | q :: l, h, p, hp => by
    rcases List.mem_cons.1 hp with rfl | hp
    · exact h.1
    · exact Needs.mem h.2 p hp

/-- What is known of an operand. -/
def evD (st : St) : Operand → D
  | .tmp t => match look st (2 * t) with
    | some (.d d) => d
    | _ => .any
  | .const v => .v v
  | .global n => .v (.pointer (some ⟨n, 0, .none⟩))
  | .func f => .fn f []

def needOf (st : St) : Operand → List (Nat × Ent)
  | .tmp t => match look st (2 * t) with
    | some (.d d) => [(2 * t, .d d)]
    | _ => []
  | _ => []

def needRoot (st : St) (r : Nat) : List (Nat × Ent) :=
  match look st (2 * r + 1) with
  | some (.r x) => [(2 * r + 1, .r x)]
  | _ => []

def needAll (st : St) : List Operand → List (Nat × Ent)
  | [] => []
  | x :: l => needOf st x ++ needAll st l

section
variable {Γ : Ctx} {g : X} {a : Act} {w : World} {S : Nat → Prop} {β : Beta} {Fs : Nat → List Nat}

theorem Inv.eval (h : Inv Γ g a w S β Fs) {st : St} {x : Operand} (hn : Needs g (needOf st x)) : Rep w S (evD st x) β (a.eval x) [] := by
  cases x with
  | tmp t =>
    simp only [evD, needOf] at *
    split <;> rename_i hl
    · rw [hl] at hn; exact h.slots t _ hn.1
    · unfold Rep; rfl
  | const v => simp [evD, Rep, Act.eval]
  | global n => simp [evD, Rep, Act.eval]
  | func f => simp [evD, Rep, Act.eval, RepL]

theorem Needs.all {st : St} : ∀ {l : List Operand}, Needs g (needAll st l) → ∀ x ∈ l, Needs g (needOf st x)
  | [], _, x, hx => by simp at hx
  | y :: l, h, x, hx => by
    rw [needAll, Needs.append] at h
    rcases List.mem_cons.1 hx with rfl | hx
    · exact h.1
    · exact Needs.all h.2 x hx
end

/-- An operation that is wanted, carried out in any state that has what it needs. -/
def OpX (P : Program) (o : Oper) (N : Nat) (need : List (Nat × Ent)) (wr : Wr) (fresh : List Nat) : Prop :=
  ∀ Γ, Γ.N = N → ∀ g a w K Q, Sat Γ g a w → Needs g need → (∀ r ∈ fresh, Γ.np ≤ r ∧ FreshName g r) → (∀ a' w', Sat Γ (upd g wr) a' w' → K a' w') → o.wp P a w K Q

theorem opx_val {P : Program} {o : Oper} {N t : Nat} {need : List (Nat × Ent)} {d : D} (hd : o.dst = some t) (ht : t < N)
    (h : ∀ Γ g a w S β Fs, Inv Γ g a w S β Fs → Needs g need → ∃ y, (execOp a.eval o).run P w = .ok (.value y) w ∧ Rep w S d β y []) :
    OpX P o N need [(2 * t, some (.d d))] [] := by
  intro Γ hN g a w K Q hs hn _ hK
  obtain ⟨S, β, Fs, hi⟩ := hs
  obtain ⟨y, hr, hy⟩ := h Γ g a w S β Fs hi hn
  unfold Oper.wp
  rw [hr]
  show K (a.put o.dst y) w
  rw [hd]
  exact hK _ _ ⟨S, β, Fs, hi.put (by omega) hy⟩

section
variable {P : Program} {o : Oper} {N t : Nat} {st : St}

theorem opx_move {x : Operand} (ho : o.op = .move x ∨ o.op = .assign x) (hd : o.dst = some t) (ht : t < N) :
    OpX P o N (needOf st x) [(2 * t, some (.d (evD st x)))] [] :=
  opx_val hd ht fun Γ g a w S β Fs hi hn => ⟨a.eval x, by rcases ho with ho | ho <;> simp [execOp, ho], hi.eval hn⟩

theorem Rep_v {w : World} {S : Nat → Prop} {β : Beta} {x y : Value} {F : List Nat} : Rep w S (.v x) β y F ↔ y = x ∧ F = [] := by simp [Rep]

def pickD : Bool → D → D → D
  | true, x, _ => x
  | false, _, y => y

theorem opx_pick {c x y : Operand} {b : Bool} (ho : o.op = .pick c x y) (hd : o.dst = some t) (ht : t < N) (hc : evD st c = .v (.bool b)) :
    OpX P o N (needOf st c ++ (needOf st x ++ needOf st y)) [(2 * t, some (.d (pickD b (evD st x) (evD st y))))] [] :=
  opx_val hd ht fun Γ g a w S β Fs hi hn => by
    rw [Needs.append, Needs.append] at hn
    have h1 := hi.eval hn.1
    rw [hc, Rep_v] at h1
    refine ⟨if b then a.eval x else a.eval y, by simp [execOp, ho, h1.1, asBool], ?_⟩
    cases b
    · exact hi.eval hn.2.2
    · exact hi.eval hn.2.1

/-- A pointer, a function value that is not nil: handed on. -/
def D.sure : D → Bool
  | .rp _ _ => true
  | .pt _ _ => true
  | .fn _ _ => true
  | .fb _ _ => true
  | _ => false

theorem opx_nilCheck' {x : Operand} (ho : o.op = .nilCheck x) (hd : o.dst = some t) (ht : t < N) (hr : ∀ r off, evD st x = .rp r off → ∃ rt, look st (2 * r + 1) = some (.r rt)) (hs : (evD st x).sure = true) :
    OpX P o N (needOf st x ++ (match evD st x with | .rp r _ => needRoot st r | _ => [])) [(2 * t, some (.d (evD st x)))] [] :=
  opx_val hd ht fun Γ g a w S β Fs hi hn => by
    rw [Needs.append] at hn
    have h1 := hi.eval hn.1
    refine ⟨a.eval x, ?_, h1⟩
    generalize he : evD st x = d at *
    cases d <;> simp [D.sure] at hs
    case rp r off =>
      obtain ⟨rt, hrt⟩ := hr r off rfl
      simp only [needRoot, hrt, Needs] at hn
      have h2 := hi.roots r rt hn.2.1
      unfold Rep at h1
      cases hb : β r with
      | none => rw [hb] at h2; cases rt <;> exact h2.elim
      | nil => rw [hb] at h1; exact h1.2.elim
      | blk b o' sz m => rw [hb] at h1; simp [execOp, ho, h1.2]
    case pt ds off =>
      unfold Rep at h1
      obtain ⟨_, _, b, o', ys, e, _⟩ := h1
      simp [execOp, ho, e]
    case fn f caps =>
      unfold Rep at h1
      obtain ⟨ys, e, _⟩ := h1
      simp [execOp, ho, e]
    case fb f caps =>
      unfold Rep at h1
      obtain ⟨_, _, ys, e, _⟩ := h1
      simp [execOp, ho, e]

/-! ### the type table -/
structure TI where
  desc : TypeDesc
  size : Nat
  bytes : Nat
  zero : List Value

abbrev Tab := List (Nat × TI)
def Tab.get : Tab → Nat → Option TI
  | [], _ => none
  | (k, i) :: r, t => if t = k then some i else Tab.get r t

def TIok (P : Program) (t : Nat) (i : TI) : Prop :=
  P.underlying t = some i.desc ∧ ∃ inf z, P.info? t = some inf ∧ inf.size = i.size ∧ inf.bytes = i.bytes ∧ inf.zero = some z ∧ z.cells.toList = i.zero

def TabOk (P : Program) : Tab → Prop
  | [] => True
  | (t, i) :: r => TIok P t i ∧ TabOk P r

theorem TabOk.get {T : Tab} (h : TabOk P T) {t : Nat} {i : TI} (hg : T.get t = some i) : TIok P t i := by
  induction T with
  | nil => simp [Tab.get] at hg
  | cons p T ih =>
    obtain ⟨k, j⟩ := p
    unfold Tab.get at hg
    split at hg
    · rename_i e; subst e; cases hg; exact h.1
    · exact ih h.2 hg

theorem TIok.und {t : Nat} {i : TI} (h : TIok P t i) (w : World) : (underlying t).run P w = .ok i.desc w := by
  simp [underlying, h.1]
theorem TIok.size {t : Nat} {i : TI} (h : TIok P t i) (w : World) : (sizeOf t).run P w = .ok i.size w := by
  obtain ⟨_, inf, z, h1, h2, _⟩ := h
  simp [sizeOf, typeInfo, h1, h2]
theorem TIok.info {t : Nat} {i : TI} (h : TIok P t i) (w : World) : ∃ inf, (typeInfo t).run P w = .ok inf w ∧ inf.bytes = i.bytes ∧ inf.size = i.size := by
  obtain ⟨_, inf, z, h1, h2, h3, _⟩ := h
  exact ⟨inf, by simp [typeInfo, h1], h3, h2⟩
theorem TIok.zeroV {t : Nat} {i : TI} (h : TIok P t i) (w : World) : ∃ z, (zeroValue t).run P w = .ok z w ∧ z.cells.toList = i.zero := by
  obtain ⟨_, inf, z, h1, h2, h3, h4, h5⟩ := h
  exact ⟨z, by simp [zeroValue, typeInfo, h1, h4], h5⟩

/-! ### numbers and strings -/
def dBin (op : BinOp) : D → D → Option (D × List Prop)
  | .v (.int k a), .v (.int k' b) =>
    if k = k' then
      match op with
      | .add => some (.v (.int k (k.wrap (a + b))), [])
      | .sub => some (.v (.int k (k.wrap (a - b))), [])
      | .mul => some (.v (.int k (k.wrap (a * b))), [])
      | .quo => some (.v (.int k (k.wrap (a.tdiv b))), [b ≠ 0])
      | .rem => some (.v (.int k (a.tmod b)), [b ≠ 0])
      | .eql => some (.v (.bool (a == b)), [])
      | .neq => some (.v (.bool (a != b)), [])
      | .lss => some (.v (.bool (decide (a < b))), [])
      | .leq => some (.v (.bool (decide (a ≤ b))), [])
      | .gtr => some (.v (.bool (decide (a > b))), [])
      | .geq => some (.v (.bool (decide (a ≥ b))), [])
      | _ => none
    else none
  | .v (.string a), .v (.string b) =>
    match op with
    | .add => some (.v (.string (a ++ b)), [((a.size + b.size : Nat) : Int) ≤ IntKind.i64.max])
    | .eql => some (.v (.bool (a.toList == b.toList)), [])
    | .neq => some (.v (.bool (!(a.toList == b.toList))), [])
    | _ => none
  | _, _ => none

def allP : List Prop → Prop
  | [] => True
  | p :: l => p ∧ allP l

theorem dBin_ok {op : BinOp} {d1 d2 d : D} {cs : List Prop} (h : dBin op d1 d2 = some (d, cs)) (hc : allP cs) (T : TypeId) (xo yo : Operand) (y1 y2 : Value) (w : World)
    {S : Nat → Prop} {β : Beta} (h1 : Rep w S d1 β y1 []) (h2 : Rep w S d2 β y2 []) :
    ∃ y, (do eqGuard op T xo yo y1 y2; binOp op T y1 y2 : Sem Value).run P w = .ok y w ∧ Rep w S d β y [] := by
  unfold dBin at h
  split at h
  · rename_i k a k' b
    rw [Rep_v] at h1 h2
    obtain ⟨rfl, _⟩ := h1
    obtain ⟨rfl, _⟩ := h2
    split at h
    · rename_i hk; subst hk
      have hg : (eqGuard op T xo yo (.int k a) (.int k b)).run P w = .ok () w := by
        unfold eqGuard; cases op <;> simp
      cases op <;> simp at h <;> obtain ⟨rfl, rfl⟩ := h <;>
        simp [hg, binOp, Op.intArith, Op.intCmp, Op.intDiv, Rep_v] <;> simp_all [allP]
    · cases h
  · rename_i a b
    rw [Rep_v] at h1 h2
    obtain ⟨rfl, _⟩ := h1
    obtain ⟨rfl, _⟩ := h2
    have hg : (eqGuard op T xo yo (.string a) (.string b)).run P w = .ok () w := by
      unfold eqGuard; cases op <;> simp
    cases op <;> simp only [reduceCtorEq, Option.some.injEq, Prod.mk.injEq] at h <;> obtain ⟨rfl, rfl⟩ := h
    · have := hc.1
      simp only [Sem.run_bind, hg, Result.andThen_ok, binOp, Op.stringOp, Int.not_lt.2 this, if_false, Sem.run_pure, GT.gt]
      exact ⟨_, rfl, by simp [Rep_v]⟩
    · simp [hg, binOp, Op.stringOp, Rep_v]
    · simp [hg, binOp, Op.stringOp, Rep_v]
  · cases h

theorem opx_bin {op : BinOp} {T T2 : TypeId} {x y : Operand} {d : D} {cs : List Prop} (ho : o.op = .binOp op T x y T2) (hd : o.dst = some t) (ht : t < N)
    (h : dBin op (evD st x) (evD st y) = some (d, cs)) (hc : allP cs) :
    OpX P o N (needOf st x ++ needOf st y) [(2 * t, some (.d d))] [] :=
  opx_val hd ht fun Γ g a w S β Fs hi hn => by
    rw [Needs.append] at hn
    obtain ⟨z, hz, hr⟩ := dBin_ok (P := P) h hc T x y _ _ w (hi.eval hn.1) (hi.eval hn.2)
    exact ⟨z, by simp only [execOp, ho]; simp only [Sem.run_bind, hz, Result.andThen_ok, Sem.run_pure], hr⟩
end
end Go.Gx
