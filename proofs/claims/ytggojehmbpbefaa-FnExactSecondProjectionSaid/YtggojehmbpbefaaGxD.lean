/- Operations that reckon addresses, read memory, make values without memory. -/
import Derived.Test.YtggojehmbpbefaaGxC
namespace Go.Gx
section
variable {P : Program} {o : Oper} {N t : Nat} {st : St} {T : Tab}

theorem add_lit (b k n : Nat) : (⟨b, k, .none⟩ : Addr).add n = ⟨b, k + n, .none⟩ := by
  unfold Addr.add; split <;> simp_all

/-- The roots that an operand's reference names lie in the state. -/
def dRoot : D → List Nat
  | .rs r _ _ => [r]
  | .rp r _ => [r]
  | .rm r => [r]
  | _ => []

def hasRoots (st : St) : List Nat → Bool
  | [] => true
  | r :: l => (match look st (2 * r + 1) with | some (.r _) => true | _ => false) && hasRoots st l

def needRoots (st : St) : List Nat → List (Nat × Ent)
  | [] => []
  | r :: l => needRoot st r ++ needRoots st l

theorem RootRep.ne {w : World} {S : Nat → Prop} {β : Beta} {x : Root} {F : List Nat} (h : RootRep w S β x .none F) : False := by
  cases x <;> exact h

theorem Inv.root_known {Γ : Ctx} {g : X} {a : Act} {w : World} {S : Nat → Prop} {β : Beta} {Fs : Nat → List Nat} (h : Inv Γ g a w S β Fs) :
    ∀ {l : List Nat}, hasRoots st l = true → Needs g (needRoots st l) → ∀ r ∈ l, β r ≠ .none
  | [], _, _, r, hr => by simp at hr
  | q :: l, hh, hn, r, hr => by
    simp only [hasRoots, Bool.and_eq_true] at hh
    rw [needRoots, Needs.append] at hn
    rcases List.mem_cons.1 hr with rfl | hr
    · have h1 := hh.1
      split at h1
      · rename_i x hx
        simp only [needRoot, hx] at hn
        have := h.roots r x hn.1.1
        intro e; rw [e] at this; exact this.ne
      · simp at h1
    · exact Inv.root_known h hh.2 hn.2 r hr

theorem opx_nilCheck {x : Operand} (ho : o.op = .nilCheck x) (hd : o.dst = some t) (ht : t < N) (hr : hasRoots st (dRoot (evD st x)) = true) (hs : (evD st x).sure = true) :
    OpX P o N (needOf st x ++ needRoots st (dRoot (evD st x))) [(2 * t, some (.d (evD st x)))] [] :=
  opx_val hd ht fun Γ g a w S β Fs hi hn => by
    rw [Needs.append] at hn
    have h1 := hi.eval hn.1
    have h3 := hi.root_known hr hn.2
    refine ⟨a.eval x, ?_, h1⟩
    generalize he : evD st x = d at *
    cases d <;> simp [D.sure] at hs
    case rp r off =>
      unfold Rep at h1
      cases hb : β r with
      | none => exact absurd hb (h3 r (by simp [dRoot]))
      | nil => rw [hb] at h1; exact h1.2.elim
      | blk b o' sz m => rw [hb] at h1; simp [execOp, ho, h1.2]
    case pt ds off =>
      unfold Rep at h1
      obtain ⟨_, _, b, o', ys, e, _⟩ := h1
      simp [execOp, ho, e]
    case fn f caps =>
      unfold Rep at h1
      obtain ⟨ys, e, _⟩ := h1
      simp [execOp, ho, e]
    case fb f caps =>
      unfold Rep at h1
      obtain ⟨_, _, ys, e, _⟩ := h1
      simp [execOp, ho, e]

/-! ### addresses -/
def dField (fo : Nat) : D → Option D
  | .rp r off => some (.rp r (off + fo))
  | .pt ds off => some (.pt ds (off + fo))
  | _ => none

theorem sureAddr_rep {w : World} {S : Nat → Prop} {β : Beta} {d d' : D} {y : Value} {n : Nat} (h : Rep w S d β y []) (hd : dField n d = some d') (hb : ∀ r ∈ dRoot d, β r ≠ .none) :
    ∃ b k, y = .pointer (some ⟨b, k, .none⟩) ∧ Rep w S d' β (.pointer (some ⟨b, k + n, .none⟩)) [] := by
  cases d <;> simp [dField] at hd
  case rp r off =>
    subst hd
    unfold Rep at *
    cases e : β r with
    | none => exact absurd e (hb r (by simp [dRoot]))
    | nil => rw [e] at h; exact h.2.elim
    | blk b o' sz m => rw [e] at h; exact ⟨b, o' + off, h.2, rfl, by simp [Nat.add_assoc]⟩
  case pt ds off =>
    subst hd
    unfold Rep at *
    obtain ⟨_, hmn, b, o', ys, e, h1, h2, h3⟩ := h
    exact ⟨b, o' + off, e, rfl, hmn, b, o', ys, by simp [Nat.add_assoc], h1, h2, h3⟩

def fieldOf (T : Tab) (s f : Nat) : Option Nat :=
  match T.get s with
  | some i => match i.desc with
    | .struct fs => match fs[f]? with
      | some fl => match T.get fl.type with
        | some j => if j.size = 0 then none else some fl.offset
        | none => none
      | none => none
    | _ => none
  | none => none

theorem fieldAt_run (hT : TabOk P T) {s f fo : Nat} (h : fieldOf T s f = some fo) (w : World) (b k : Nat) :
    (Instr.fieldAt s (.pointer (some ⟨b, k, .none⟩)) f).run P w = .ok (.pointer (some ⟨b, k + fo, .none⟩)) w := by
  unfold fieldOf at h
  split at h
  · rename_i i hi
    split at h
    · rename_i fs hfs
      split at h
      · rename_i fl hfl
        split at h
        · rename_i j hj
          split at h
          · cases h
          · rename_i hz
            cases h
            have e := hT.get hi
            have e2 := (hT.get hj).size w
            simp [Instr.fieldAt, (hT.get hi).und, hfs, hfl, Instr.sureAddr, fieldPlace, e2, hz, add_lit]
        · cases h
      · cases h
    · cases h
  · cases h

theorem opx_fieldAddr (hT : TabOk P T) {s f fo : Nat} {x : Operand} {d : D} (ho : o.op = .fieldAddr s x f) (hd : o.dst = some t) (ht : t < N)
    (hf : fieldOf T s f = some fo) (hx : dField fo (evD st x) = some d) (hr : hasRoots st (dRoot (evD st x)) = true) :
    OpX P o N (needOf st x ++ needRoots st (dRoot (evD st x))) [(2 * t, some (.d d))] [] :=
  opx_val hd ht fun Γ g a w S β Fs hi hn => by
    rw [Needs.append] at hn
    obtain ⟨b, k, e, h⟩ := sureAddr_rep (hi.eval hn.1) hx (hi.root_known hr hn.2)
    refine ⟨_, ?_, h⟩
    simp only [execOp, ho, e, Sem.run_bind, fieldAt_run hT hf, Result.andThen_ok, Sem.run_pure]

/-- Element addresses of slices. -/
def dIndex (sz : Nat) : D → D → Option (D × List Prop)
  | .rs r off n, .v (.int _ i) => some (.rp r (off + i.toNat * sz), [0 ≤ i, i < n])
  | .sl n off ds, .v (.int _ i) => some (.pt ds (off + i.toNat * sz), [0 ≤ i, i < n])
  | _, _ => none

def elemSize (T : Tab) (s : Nat) : Option Nat :=
  match T.get s with
  | some i => match i.desc with
    | .slice e => (T.get e).map (·.size)
    | _ => none
  | none => none

theorem elemSize_ok (hT : TabOk P T) {s sz : Nat} (h : elemSize T s = some sz) : ∃ e, (∀ w, (underlying s).run P w = .ok (.slice e) w) ∧ ∀ w, (sizeOf e).run P w = .ok sz w := by
  unfold elemSize at h
  split at h
  · rename_i i hi
    split at h
    · rename_i e he
      cases hj : T.get e with
      | none => rw [hj] at h; cases h
      | some j =>
        rw [hj] at h; cases h
        exact ⟨e, fun w => by rw [(hT.get hi).und, he], fun w => (hT.get hj).size w⟩
    · cases h
  · cases h

theorem opx_index (hT : TabOk P T) {s sz : Nat} {x y : Operand} {d : D} {cs : List Prop} (ho : o.op = .indexAddr s x y) (hd : o.dst = some t) (ht : t < N)
    (hf : elemSize T s = some sz) (hx : dIndex sz (evD st x) (evD st y) = some (d, cs)) (hc : allP cs) (hr : hasRoots st (dRoot (evD st x)) = true) :
    OpX P o N (needOf st x ++ (needOf st y ++ needRoots st (dRoot (evD st x)))) [(2 * t, some (.d d))] [] :=
  opx_val hd ht fun Γ g a w S β Fs hi hn => by
    rw [Needs.append, Needs.append] at hn
    have h1 := hi.eval hn.1
    have h2 := hi.eval hn.2.1
    have h3 := hi.root_known hr hn.2.2
    obtain ⟨e, hu, hs⟩ := elemSize_ok hT hf
    unfold dIndex at hx
    split at hx
    · rename_i r off n k i e1 e2
      cases hx
      rw [e1] at h1 h3
      rw [e2, Rep_v] at h2
      obtain ⟨c1, c2, _⟩ := hc
      unfold Rep at h1
      cases eb : β r with
      | none => exact absurd eb (h3 r (by simp [dRoot]))
      | nil => rw [eb] at h1; omega
      | blk b o' sz' m =>
        rw [eb] at h1
        obtain ⟨_, cap, e3, _⟩ := h1
        refine ⟨.pointer (some ⟨b, o' + (off + i.toNat * sz), .none⟩), ?_, by unfold Rep; rw [eb]; exact ⟨rfl, rfl⟩⟩
        simp only [execOp, ho, e3, h2.1]
        simp [Instr.indexAt, asIntOf, hu, hs, c1, c2, add_lit, Nat.add_assoc]
    · rename_i n off ds k i e1 e2
      cases hx
      rw [e1] at h1
      rw [e2, Rep_v] at h2
      obtain ⟨c1, c2, _⟩ := hc
      unfold Rep at h1
      obtain ⟨_, hmn, aa, cap, e3, h1⟩ := h1
      rcases h1 with rfl | ⟨b, o', ys, rfl, h4, h5, h6⟩
      · exact absurd c2 (by simp; omega)
      · refine ⟨.pointer (some ⟨b, o' + (off + i.toNat * sz), .none⟩), ?_, by unfold Rep; exact ⟨rfl, hmn, b, o', ys, rfl, h4, h5, h6⟩⟩
        simp only [execOp, ho, e3, h2.1]
        simp [Instr.indexAt, asIntOf, hu, hs, c1, c2, add_lit, Nat.add_assoc]
    · cases hx

/-! ### loads -/
end

-- no owned part
mutual
def D.noFr : D → Bool
  | .fr _ _ _ => false
  | .agg ds => noFrL ds
  | .tup ds => noFrL ds
  | .fn _ caps => noFrL caps
  | .ifc _ d => d.noFr
  | _ => true
def noFrL : List D → Bool
  | [] => true
  | d :: ds => d.noFr && noFrL ds
end

mutual
theorem Rep.noF {w : World} {S : Nat → Prop} : ∀ {d : D} {β : Beta} {y : Value} {F : List Nat}, d.noFr = true → Rep w S d β y F → F = []
  | .any, _, _, _, _, h => by unfold Rep at h; exact h
  | .v x, _, _, _, _, h => by unfold Rep at h; exact h.2
  | .agg ds, _, _, _, hn, h => by unfold D.noFr at hn; unfold Rep at h; obtain ⟨ys, _, h⟩ := h; exact RepL.noF hn h
  | .tup ds, _, _, _, hn, h => by unfold D.noFr at hn; unfold Rep at h; obtain ⟨ys, _, h⟩ := h; exact RepT.noF hn h
  | .sl _ _ _, _, _, _, _, h => by unfold Rep at h; exact h.1
  | .pt _ _, _, _, _, _, h => by unfold Rep at h; exact h.1
  | .fr _ _ _, _, _, _, hn, _ => by unfold D.noFr at hn; cases hn
  | .rs _ _ _, _, _, _, _, h => by unfold Rep at h; exact h.1
  | .rp _ _, _, _, _, _, h => by unfold Rep at h; exact h.1
  | .fn _ caps, _, _, _, hn, h => by unfold D.noFr at hn; unfold Rep at h; obtain ⟨ys, _, h⟩ := h; exact RepL.noF hn h
  | .ifc _ d, _, _, _, hn, h => by unfold D.noFr at hn; unfold Rep at h; obtain ⟨x, _, h⟩ := h; exact Rep.noF hn h
  | .rm _, _, _, _, _, h => by unfold Rep at h; exact h.1
  | .bm _, _, _, _, _, h => by unfold Rep at h; exact h.1
  | .fb _ _, _, _, _, _, h => by unfold Rep at h; exact h.1
theorem RepL.noF {w : World} {S : Nat → Prop} : ∀ {ds : List D} {β : Beta} {ys : List Value} {F : List Nat}, noFrL ds = true → RepL w S ds β ys F → F = []
  | [], _, _, _, _, h => by unfold RepL at h; exact h.2
  | d :: ds, _, _, _, hn, h => by
    simp only [noFrL, Bool.and_eq_true] at hn
    unfold RepL at h
    obtain ⟨y, ys', F1, F2, _, rfl, _, h1, h2⟩ := h
    rw [Rep.noF hn.1 h1, RepL.noF hn.2 h2]; rfl
theorem RepT.noF {w : World} {S : Nat → Prop} : ∀ {ds : List D} {β : Beta} {ys : List Value} {F : List Nat}, noFrL ds = true → RepT w S ds β ys F → F = []
  | [], _, _, _, _, h => by unfold RepT at h; exact h.2
  | d :: ds, _, _, _, hn, h => by
    simp only [noFrL, Bool.and_eq_true] at hn
    unfold RepT at h
    obtain ⟨y, ys', F1, F2, _, rfl, h1, h2⟩ := h
    rw [Rep.noF hn.1 h1, RepT.noF hn.2 h2]; rfl
end

section
variable {P : Program} {o : Oper} {N t : Nat} {st : St} {T : Tab}

def subRefs (ms refs : List Nat) : Bool := ms.all fun r => refs.contains r

theorem Rep.unres {w : World} {S : Nat → Prop} {β : Beta} {refs : List Nat} {d : D} {y : Value} {F : List Nat} (hs : subRefs d.men refs = true) (h : Rep w S d (β.res refs) y F) : Rep w S d β y F :=
  Rep.beta d y F (fun r hr => by
    have := List.all_eq_true.1 hs r hr
    unfold Beta.res; rw [if_pos this]) h

theorem RepL.unres {w : World} {S : Nat → Prop} {β : Beta} {refs : List Nat} {ds : List D} {ys : List Value} {F : List Nat} (hs : subRefs (menL ds) refs = true) (h : RepL w S ds (β.res refs) ys F) : RepL w S ds β ys F :=
  RepL.beta ds ys F (fun r hr => by
    have := List.all_eq_true.1 hs r hr
    unfold Beta.res; rw [if_pos this]) h

theorem noB_res {β : Beta} : noB = β.res [] := by funext r; simp [noB, Beta.res]

/-- What a pointer sees: its cells from the pointer on, and the roots that they may name. -/
def dSees (st : St) : D → Option (List D × Nat × List Nat)
  | .rp r off => match look st (2 * r + 1) with
    | some (.r (.arr _ cells refs)) => some (cells, off, refs)
    | _ => none
  | .pt ds off => some (ds, off, [])
  | _ => none

theorem Seg.cell {w : World} {b o i : Nat} {ys : List Value} {y : Value} (h : Seg w b o ys) (hy : ys[i]? = some y) : w.cell? ⟨b, o + i, .none⟩ = some y := by
  obtain ⟨pre, rest, E, fz, h1, rfl⟩ := h
  have hi := (List.getElem?_eq_some_iff.1 hy).1
  simp only [World.cell?, h1, Option.isSome, List.getElem?_toArray, List.append_assoc]
  rw [List.getElem?_append_right (by omega), Nat.add_sub_cancel_left, List.getElem?_append_left hi]
  simpa using hy

/-- Behind a pointer: the cells of its block. -/
theorem sees {w : World} {S : Nat → Prop} {β : Beta} {Γ : Ctx} {g : X} {a : Act} {Fs : Nat → List Nat} (hi : Inv Γ g a w S β Fs) {d : D} {y : Value} {ds : List D} {off : Nat} {refs : List Nat}
    (h : Rep w S d β y []) (hs : dSees st d = some (ds, off, refs)) (hn : Needs g (needRoots st (dRoot d))) :
    ∃ b k ys F, y = .pointer (some ⟨b, k + off, .none⟩) ∧ Seg w b k ys ∧ RepL w S ds (β.res refs) ys F := by
  cases d <;> simp [dSees] at hs
  case rp r off' =>
    split at hs
    · rename_i sz cells refs' hl
      simp at hs
      obtain ⟨rfl, rfl, rfl⟩ := hs
      simp only [dRoot, needRoots, needRoot, hl, List.append_nil, Needs] at hn
      have hr := hi.roots r _ hn.1
      unfold Rep at h
      cases e : β r with
      | none => rw [e] at hr; exact hr.ne.elim
      | nil => rw [e] at h; exact h.2.elim
      | blk b o' sz' m =>
        rw [e] at h hr
        obtain ⟨_, pre, ys, rest, E, F', h1, h2, h3, h4, h5, _⟩ := hr
        exact ⟨b, o', ys, F', h.2, ⟨pre, rest, E, _, h1, h3⟩, h5⟩
    · cases hs
  case pt ds' off' =>
    obtain ⟨rfl, rfl, rfl⟩ := hs
    unfold Rep at h
    obtain ⟨_, _, b, o', ys, e, h1, h2, h3⟩ := h
    rw [noB_res (β := β)] at h3
    exact ⟨b, o', ys, [], e, h2, h3⟩

def isAggD : TypeDesc → Bool
  | .struct _ => true
  | .array _ _ => true
  | _ => false

theorem isAgg_run (hT : TabOk P T) {s : Nat} {i : TI} (h : T.get s = some i) (w : World) : (isAgg s).run P w = .ok (isAggD i.desc) w := by
  have := (hT.get h).und w
  unfold isAgg
  cases e : i.desc <;> simp [this, e, isAggD]

theorem opx_load (hT : TabOk P T) {s : Nat} {i : TI} {x : Operand} {d : D} {ds : List D} {off : Nat} {refs : List Nat} (ho : o.op = .load s x) (hd : o.dst = some t) (ht : t < N)
    (hi' : T.get s = some i) (ha : isAggD i.desc = false) (hs : dSees st (evD st x) = some (ds, off, refs)) (hc : ds[off]? = some d) (hm : subRefs d.men refs = true) (hf : d.noFr = true) :
    OpX P o N (needOf st x ++ needRoots st (dRoot (evD st x))) [(2 * t, some (.d d))] [] :=
  opx_val hd ht fun Γ g a w S β Fs hi hn => by
    rw [Needs.append] at hn
    obtain ⟨b, k, ys, F, e, h1, h2⟩ := sees hi (hi.eval hn.1) hs hn.2
    obtain ⟨ya, y, yb, Fa, Fd, Fb, rfl, hl, _, _, h3, _, _⟩ := RepL_mid h2 hc
    obtain rfl := Rep.noF hf h3
    have hcell := h1.cell (i := off) (y := y) (by rw [← hl]; simp)
    refine ⟨y, ?_, h3.unres hm⟩
    simp only [execOp, ho, e]
    simp [Instr.loadAt, Instr.sureAddr, loadVar, isAgg_run hT hi', ha, hcell]

theorem RepL_sub {w : World} {S : Nat → Prop} {β : Beta} {ds : List D} {ys : List Value} {F : List Nat} (h : RepL w S ds β ys F) (i n : Nat) :
    ∃ F', RepL w S ((ds.drop i).take n) β ((ys.drop i).take n) F' := by
  have e : ds = ds.take i ++ ((ds.drop i).take n ++ (ds.drop i).drop n) := by rw [List.take_append_drop, List.take_append_drop]
  rw [e] at h
  obtain ⟨ya, y2, Fa, F2, rfl, rfl, h1, h2⟩ := RepL_append h
  obtain ⟨yb, yc, Fb, Fc, rfl, rfl, h3, h4⟩ := RepL_append h2
  refine ⟨Fb, ?_⟩
  have l1 := RepL_length h1
  have l3 := RepL_length h3
  simp at l1 l3
  have l2 := RepL_length h4
  simp at l2
  have : (List.drop i (ya ++ (yb ++ yc))).take n = yb := by
    by_cases hi : i ≤ ds.length
    · have : ya.length = i := by omega
      rw [← this, List.drop_left]
      by_cases hn : n ≤ ds.length - i
      · have : yb.length = n := by omega
        rw [← this, List.take_left]
      · have : yc = [] := by apply List.eq_nil_of_length_eq_zero; omega
        subst this; simp; rw [List.take_of_length_le]; omega
    · have hb : yb = [] := by apply List.eq_nil_of_length_eq_zero; omega
      have hcc : yc = [] := by apply List.eq_nil_of_length_eq_zero; omega
      subst hb hcc
      simp; right; omega
  rw [this]; exact h3

theorem opx_loadAgg (hT : TabOk P T) {s : Nat} {i : TI} {x : Operand} {ds' : List D} {ds : List D} {off : Nat} {refs : List Nat} (ho : o.op = .load s x) (hd : o.dst = some t) (ht : t < N)
    (hi' : T.get s = some i) (ha : isAggD i.desc = true) (hs : dSees st (evD st x) = some (ds, off, refs)) (hc : (ds.drop off).take i.size = ds') (hl : ds'.length = i.size)
    (hm : subRefs (menL ds') refs = true) (hf : noFrL ds' = true) :
    OpX P o N (needOf st x ++ needRoots st (dRoot (evD st x))) [(2 * t, some (.d (.agg ds')))] [] :=
  opx_val hd ht fun Γ g a w S β Fs hi hn => by
    rw [Needs.append] at hn
    obtain ⟨b, k, ys, F, e, h1, h2⟩ := sees hi (hi.eval hn.1) hs hn.2
    obtain ⟨F', h3⟩ := RepL_sub h2 off i.size
    rw [hc] at h3
    obtain rfl := RepL.noF hf h3
    have hly := RepL_length h3
    refine ⟨.agg ((ys.drop off).take i.size).toArray, ?_, by unfold Rep; exact ⟨_, rfl, h3.unres hm⟩⟩
    have hcells := run_loadCells_list (P := P) w ⟨b, k + off, .none⟩ ((ys.drop off).take i.size) (fun j v hj => by
      rw [add_lit, Nat.add_assoc]
      refine h1.cell ?_
      rw [List.getElem?_take] at hj
      split at hj
      · rw [List.getElem?_drop] at hj; exact hj
      · cases hj)
    rw [hly, hl] at hcells
    simp only [execOp, ho, e]
    simp only [Instr.loadAt, Instr.sureAddr, loadVar, Sem.run_bind, Sem.run_pure, Result.andThen_ok, isAgg_run hT hi', ha, if_true, (hT.get hi').size, hcells]
end
end Go.Gx
