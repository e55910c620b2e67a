/- '==' and '!=' on bools and on structs of numbers. -/
import Derived.Test.YtggojehmbpbefaaGxD
import Derived.Laws.StructEq
namespace Go.Gx
section
variable {P : Program} {o : Oper} {N t : Nat} {st : St} {T : Tab}

def isEq : BinOp → Option Bool
  | .eql => some true
  | .neq => some false
  | _ => none

theorem opx_eqBool (hT : TabOk P T) {op : BinOp} {e : Bool} {s T2 : TypeId} {x y : Operand} {a b : Bool} {i : TI} (ho : o.op = .binOp op s x y T2) (hd : o.dst = some t) (ht : t < N)
    (hop : isEq op = some e) (hs : T.get s = some i) (hi' : i.desc = .bool) (hx : evD st x = .v (.bool a)) (hy : evD st y = .v (.bool b)) :
    OpX P o N (needOf st x ++ needOf st y) [(2 * t, some (.d (.v (.bool ((a == b) == e)))))] [] :=
  opx_val hd ht fun Γ g ac w S β Fs hi hn => by
    rw [Needs.append] at hn
    have h1 := hi.eval hn.1
    have h2 := hi.eval hn.2
    rw [hx, Rep_v] at h1
    rw [hy, Rep_v] at h2
    have hu := (hT.get hs).1
    rw [hi'] at hu
    refine ⟨.bool ((a == b) == e), ?_, by rw [Rep_v]; exact ⟨rfl, rfl⟩⟩
    simp only [execOp, ho, h1.1, h2.1]
    cases op <;> simp [isEq] at hop <;> subst hop <;> simp [eqGuard, binOp, run_equal_bool w s a b hu]

/-- Rows of numbers, cell by cell. -/
def eqInts : List D → List D → Option Bool
  | [], [] => some true
  | [.v (.int .i64 a)], [.v (.int .i64 b)] => some (a == b)
  | .v (.int .i64 a) :: l, .v (.int .i64 b) :: l' => match eqInts l l' with
    | some r => some (a == b && r)
    | none => none
  | _, _ => none

def intField (T : Tab) : Nat → List Field → Bool
  | _, [] => true
  | k, f :: fs => f.name != "_" && Nat.beq f.offset k && (match T.get f.type with | some i => (match i.desc with | .int _ => true | _ => false) | none => false) && intField T (k + 1) fs

theorem eqInts_cons {a b : Int} {l l' : List D} {r : Bool} (h : eqInts (.v (.int .i64 a) :: l) (.v (.int .i64 b) :: l') = some r) : ∃ r', eqInts l l' = some r' ∧ r = (a == b && r') := by
  cases l with
  | nil => cases l' with
    | nil => simp [eqInts] at h ⊢; exact h.symm
    | cons d l' => simp [eqInts] at h
  | cons d l => cases l' with
    | nil => simp [eqInts] at h
    | cons d' l' =>
      unfold eqInts at h
      split at h
      · rename_i r' h'; cases h; exact ⟨r', h', rfl⟩
      · cases h

theorem eqInts_shape {d d' : D} {l l' : List D} {r : Bool} (h : eqInts (d :: l) (d' :: l') = some r) : ∃ a b, d = .v (.int .i64 a) ∧ d' = .v (.int .i64 b) := by
  unfold eqInts at h
  split at h
  · rename_i h1 h2; cases h1
  · rename_i a b h1 h2; cases h1; cases h2; exact ⟨a, b, rfl, rfl⟩
  · rename_i a l1 b l2 _ h1 h2; cases h1; cases h2; exact ⟨a, b, rfl, rfl⟩
  · cases h

theorem run_eqFields (hT : TabOk P T) {w : World} {S : Nat → Prop} {β : Beta} (d : Nat) : ∀ (fs : List Field) (k : Nat) (xs ys : List Value) (l l' : List D) (F F' : List Nat) (r : Bool) (px py : List Value), intField T k fs = true → px.length = k → py.length = k → l.length = fs.length →
    RepL w S l β xs F → RepL w S l' β ys F' → eqInts l l' = some r → (Op.eqFields (d + 1) (px ++ xs).toArray (py ++ ys).toArray fs).run P w = .ok r w
  | [], k, xs, ys, l, l', F, F', r, px, py, _, _, _, hl, _, _, he => by
    have : l = [] := List.eq_nil_of_length_eq_zero (by simpa using hl)
    subst this
    cases l' with
    | nil => simp [eqInts] at he; subst he; simp [Op.eqFields]
    | cons d' l' => simp [eqInts] at he
  | f :: fs, k, xs, ys, l, l', F, F', r, px, py, hf, hpx, hpy, hl, hx, hy, he => by
    simp only [intField, Bool.and_eq_true, bne_iff_ne, ne_eq] at hf
    obtain ⟨⟨⟨f1, f2⟩, f3⟩, f4⟩ := hf
    have f2 := Nat.eq_of_beq_eq_true f2
    cases l with
    | nil => simp at hl
    | cons d0 l =>
      cases l' with
      | nil => unfold eqInts at he; simp at he
      | cons d0' l' =>
        obtain ⟨a, b, rfl, rfl⟩ := eqInts_shape he
        obtain ⟨r', he', rfl⟩ := eqInts_cons he
        unfold RepL at hx hy
        obtain ⟨y1, xs', F1, F2, rfl, rfl, _, hx1, hx2⟩ := hx
        obtain ⟨y2, ys', F3, F4, rfl, rfl, _, hy1, hy2⟩ := hy
        rw [Rep_v] at hx1 hy1
        obtain ⟨rfl, rfl⟩ := hx1
        obtain ⟨rfl, rfl⟩ := hy1
        split at f3
        · rename_i i hi
          split at f3
          · rename_i k' hk'
            have hu := (hT.get hi).1
            rw [hk'] at hu
            have hag : (isAgg f.type).run P w = .ok false w := by rw [isAgg_run hT hi, hk']; rfl
            have g1 : (px ++ Value.int .i64 a :: xs').toArray[f.offset]? = some (.int .i64 a) := by simp [f2, ← hpx]
            have g2 : (py ++ Value.int .i64 b :: ys').toArray[f.offset]? = some (.int .i64 b) := by simp [f2, ← hpy]
            have ih := run_eqFields hT d fs (k + 1) xs' ys' l l' F2 F4 r' (px ++ [.int .i64 a]) (py ++ [.int .i64 b]) f4 (by simp [hpx]) (by simp [hpy]) (by simpa using hl) hx2 hy2 he'
            simp only [List.append_assoc, List.singleton_append] at ih
            simp only [Op.eqFields, ne_eq, f1, not_false_eq_true, if_true, part, Sem.run_bind, hag, Result.andThen_ok, Bool.false_eq_true, if_false, g1, g2, Sem.run_pure, run_equalIn_int w d f.type .i64 k' a b hu]
            cases hab : a == b
            · simp
            · simp [ih]
          · cases f3
        · cases f3

theorem opx_eqStruct (hT : TabOk P T) {op : BinOp} {e : Bool} {s T2 : TypeId} {x y : Operand} {r : Bool} {i : TI} {fs : Array Field} {l l' : List D} (ho : o.op = .binOp op s x y T2) (hd : o.dst = some t) (ht : t < N)
    (hop : isEq op = some e) (hs : T.get s = some i) (hi' : i.desc = .struct fs) (hx : evD st x = .agg l) (hy : evD st y = .agg l') (he : eqInts l l' = some r) (hf : intField T 0 fs.toList = true) (hl : l.length = fs.size)
    (hp : P.stoodInHeld s = false) (hg : P.eqGuardType P.depth s = false) :
    OpX P o N (needOf st x ++ needOf st y) [(2 * t, some (.d (.v (.bool (r == e)))))] [] :=
  opx_val hd ht fun Γ g ac w S β Fs hi hn => by
    rw [Needs.append] at hn
    have h1 := hi.eval hn.1
    have h2 := hi.eval hn.2
    rw [hx] at h1
    rw [hy] at h2
    unfold Rep at h1 h2
    obtain ⟨xs, e1, h1⟩ := h1
    obtain ⟨ys, e2, h2⟩ := h2
    have hu := (hT.get hs).1
    rw [hi'] at hu
    have hfo : P.fieldsOf s = fs := by unfold Program.fieldsOf; rw [hu]
    have hrun := run_eqFields hT (w := w) (S := S) (β := β) 9998 fs.toList 0 xs ys l l' _ _ r [] [] hf rfl rfl (by simpa using hl) h1 h2 he
    simp only [List.nil_append] at hrun
    have heq : (Op.equalIn 10000 s (.agg xs.toArray) (.agg ys.toArray)).run P w = .ok r w := by
      rw [show (10000 : Nat) = 9999 + 1 from rfl, run_equalIn_agg w 9999 s _ _ (by rw [hfo]; exact hu) hp, hfo]
      exact hrun
    refine ⟨.bool (r == e), ?_, by rw [Rep_v]; exact ⟨rfl, rfl⟩⟩
    simp only [execOp, ho, e1, e2, Sem.run_bind, run_eqGuard_agg w op s x y _ _ hg, Result.andThen_ok]
    cases op <;> simp [isEq] at hop <;> subst hop
    · rw [run_eql_struct, heq]; simp
    · rw [run_neq_struct, heq]; simp

/-- The three together. -/
def dEq (P : Program) (T : Tab) (op : BinOp) (s : Nat) (d1 d2 : D) : Option (D × List Prop) :=
  match isEq op, T.get s with
  | some e, some i => match d1, d2, i.desc with
    | .v (.bool a), .v (.bool b), .bool => some (.v (.bool ((a == b) == e)), [])
    | .agg l, .agg l', .struct fs => match eqInts l l' with
      | some r => if intField T 0 fs.toList && Nat.beq l.length fs.size then some (.v (.bool (r == e)), [P.stoodInHeld s = false, P.eqGuardType P.depth s = false]) else none
      | none => none
    | _, _, _ => none
  | _, _ => none

theorem opx_eq (hT : TabOk P T) {op : BinOp} {s T2 : TypeId} {x y : Operand} {d : D} {cs : List Prop} (ho : o.op = .binOp op s x y T2) (hd : o.dst = some t) (ht : t < N)
    (h : dEq P T op s (evD st x) (evD st y) = some (d, cs)) (hc : allP cs) : OpX P o N (needOf st x ++ needOf st y) [(2 * t, some (.d d))] [] := by
  unfold dEq at h
  split at h
  · rename_i e i hop hs
    split at h
    · rename_i a b hx hy hdsc
      cases h
      exact opx_eqBool hT ho hd ht hop hs hdsc hx hy
    · rename_i l l' fs hx hy hdsc
      split at h
      · rename_i r he
        split at h
        · rename_i hb
          cases h
          simp only [Bool.and_eq_true] at hb
          exact opx_eqStruct hT ho hd ht hop hs hdsc hx hy he hb.1 (Nat.eq_of_beq_eq_true hb.2) hc.1 hc.2.1
        · cases h
      · cases h
    · cases h
  · cases h
end
end Go.Gx
