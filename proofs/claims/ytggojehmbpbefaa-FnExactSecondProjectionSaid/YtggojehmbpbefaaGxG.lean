/- Struct and array values, slice literals. -/
import Derived.Test.YtggojehmbpbefaaGxF
namespace Go.Gx

/-- 'fill' over what is known of the cells. -/
def dFill (place : Nat → Option (Nat × Nat)) : List D → List (Nat × D) → Option (List D)
  | cells, [] => some cells
  | cells, (i, d) :: r => match place i with
    | some (off, size) => if (dCells d).length = size ∧ off + size ≤ cells.length then dFill place (cells.take off ++ dCells d ++ cells.drop (off + size)) r else none
    | none => none

theorem foldl_splice (off : Nat) (vs cs : List Value) (h : off + vs.length ≤ cs.length) :
    (vs.toArray.zipIdx.foldl (fun cs (x : Value × Nat) => cs.setIfInBounds (off + x.2) x.1) cs.toArray) = (cs.take off ++ vs ++ cs.drop (off + vs.length)).toArray := by
  obtain ⟨h1, h2⟩ := Great.foldl_set off vs 0 cs.toArray
  have e : vs.toArray.zipIdx.foldl (fun cs (x : Value × Nat) => cs.setIfInBounds (off + x.2) x.1) cs.toArray = (vs.zipIdx 0).foldl (fun cs (x : Value × Nat) => cs.setIfInBounds (off + x.2) x.1) cs.toArray := by
    rw [← Array.foldl_toList, Array.toList_zipIdx]
  rw [e]
  apply Array.ext_getElem?
  intro k
  rw [h2 k]
  simp only [Nat.add_zero, List.size_toArray, List.getElem?_toArray, List.append_assoc]
  by_cases hk : k < off
  · rw [if_neg (by omega), List.getElem?_append_left (by simp; omega)]
    simp [List.getElem?_take, hk]
  · rw [List.getElem?_append_right (by simp; omega)]
    simp only [List.length_take, Nat.min_eq_left (show off ≤ cs.length by omega)]
    by_cases hk2 : k < off + vs.length
    · rw [if_pos (by omega), List.getElem?_append_left (by omega)]
    · rw [if_neg (by omega), List.getElem?_append_right (by omega), List.getElem?_drop]
      congr 1; omega

section
variable {w : World} {S : Nat → Prop} {β : Beta}

inductive PartsRep (w : World) (S : Nat → Prop) (β : Beta) : List (Nat × D) → List (Nat × Value) → Prop
  | nil : PartsRep w S β [] []
  | cons {i : Nat} {d : D} {y : Value} {ys : List Value} {l : List (Nat × D)} {l' : List (Nat × Value)} (e : y.cells = ys.toArray) (h : RepL w S (dCells d) β ys []) (r : PartsRep w S β l l') :
      PartsRep w S β ((i, d) :: l) ((i, y) :: l')

theorem fill_rep {place : Nat → Option (Nat × Nat)} {parts : List (Nat × D)} {pv : List (Nat × Value)} (hp : PartsRep w S β parts pv) : ∀ {cells cells' : List D} {ys : List Value},
    RepL w S cells β ys [] → dFill place cells parts = some cells' → ∃ zs : List Value, Instr.fill place ys.toArray pv = some zs.toArray ∧ RepL w S cells' β zs [] := by
  induction hp with
  | nil => intro cells cells' ys h hf; simp [dFill] at hf; subst hf; exact ⟨ys, rfl, h⟩
  | @cons i d y vs l l' e hd hr ih =>
    intro cells cells' ys h hf
    unfold dFill at hf
    split at hf
    · rename_i off size hpl
      split at hf
      · rename_i hc
        have l1 := RepL_length hd
        have l2 := RepL_length h
        have hspl : RepL w S (cells.take off ++ dCells d ++ cells.drop (off + size)) β (ys.take off ++ vs ++ ys.drop (off + vs.length)) [] := by
          have a1 := RepL_sub h 0 off
          have a2 := RepL_sub h (off + size) cells.length
          obtain ⟨F1, a1⟩ := a1
          obtain ⟨F2, a2⟩ := a2
          simp only [List.drop_zero] at a1
          rw [List.take_of_length_le (by simp), List.take_of_length_le (by simp; omega)] at a2
          -- the footprints are empty: cells has none
          have nf : ∀ (i n : Nat) (F' : List Nat), RepL w S ((cells.drop i).take n) β ((ys.drop i).take n) F' → RepL w S ((cells.drop i).take n) β ((ys.drop i).take n) [] := by
            intro i n F' _
            have e : cells = cells.take i ++ ((cells.drop i).take n ++ (cells.drop i).drop n) := by rw [List.take_append_drop, List.take_append_drop]
            have h' := h
            rw [e] at h'
            obtain ⟨ya, y2, Fa, F2, e1, e2, h1, h2⟩ := RepL_append h'
            obtain ⟨yb, yc, Fb, Fc, rfl, rfl, h3, h4⟩ := RepL_append h2
            simp only [List.nil_eq, List.append_eq_nil_iff] at e2
            obtain ⟨rfl, rfl, rfl⟩ := e2
            have l1 := RepL_length h1
            have l3 := RepL_length h3
            have l4 := RepL_length h4
            simp at l1 l3 l4
            have : (ys.drop i).take n = yb := by
              subst e1
              by_cases hi : i ≤ cells.length
              · have : ya.length = i := by omega
                rw [← this, List.drop_left]
                by_cases hn : n ≤ cells.length - i
                · have : yb.length = n := by omega
                  rw [← this, List.take_left]
                · have : yc = [] := by apply List.eq_nil_of_length_eq_zero; omega
                  subst this; simp; rw [List.take_of_length_le]; omega
              · have hb : yb = [] := by apply List.eq_nil_of_length_eq_zero; omega
                have hcc : yc = [] := by apply List.eq_nil_of_length_eq_zero; omega
                subst hb hcc
                simp; right; omega
            rw [this]; exact h3
          have b1 := nf 0 off F1 (by simpa using a1)
          have b2 := nf (off + size) cells.length F2 (by rw [List.take_of_length_le (by simp), List.take_of_length_le (by simp; omega)]; exact a2)
          simp only [List.drop_zero] at b1
          rw [List.take_of_length_le (by simp), List.take_of_length_le (by simp; omega)] at b2
          rw [l1, hc.1]
          have := RepL_append_mk (RepL_append_mk b1 hd) b2
          simpa using this
        obtain ⟨zs, hz, hrz⟩ := ih hspl hf
        refine ⟨zs, ?_, hrz⟩
        unfold Instr.fill
        rw [hpl]
        simp only [e, List.size_toArray]
        rw [if_neg (by simp only [ne_eq, Bool.or_eq_true, decide_eq_true_eq, not_or]; constructor <;> (simp; omega))]
        rw [foldl_splice off vs ys (by omega)]
        exact hz
      · cases hf
    · cases hf
end

section
variable {P : Program} {o : Oper} {N t : Nat} {st : St} {T : Tab}

def partD (st : St) (parts : List (Nat × Operand)) : List (Nat × D) := parts.map fun p => (p.1, evD st p.2)
def partOps (parts : List (Nat × Operand)) : List Operand := parts.map (·.2)
def partMen (st : St) (parts : List (Nat × Operand)) : List Nat := parts.flatMap fun p => menL (dCells (evD st p.2))
def partNeed (st : St) (parts : List (Nat × Operand)) : List (Nat × Ent) := needAll st (partOps parts) ++ needRoots st (partMen st parts)

theorem needRoots_append {st : St} {g : X} : ∀ {l l' : List Nat}, Needs g (needRoots st (l ++ l')) ↔ Needs g (needRoots st l) ∧ Needs g (needRoots st l')
  | [], _ => by simp [needRoots, Needs]
  | r :: l, l' => by simp [needRoots, Needs.append, needRoots_append (l := l), and_assoc]

theorem hasRoots_append {st : St} : ∀ {l l' : List Nat}, hasRoots st (l ++ l') = (hasRoots st l && hasRoots st l')
  | [], _ => by simp [hasRoots]
  | r :: l, l' => by simp [hasRoots, hasRoots_append (l := l), Bool.and_assoc]

theorem parts_rep {Γ : Ctx} {g : X} {a : Act} {w : World} {S : Nat → Prop} {β : Beta} {Fs : Nat → List Nat} (hi : Inv Γ g a w S β Fs) :
    ∀ {parts : List (Nat × Operand)}, Needs g (partNeed st parts) → hasRoots st (partMen st parts) = true → (parts.all fun p => (dCells (evD st p.2)).all D.cellish) = true →
      PartsRep w S β (partD st parts) (parts.map fun p => (p.1, a.eval p.2))
  | [], _, _, _ => .nil
  | (i, x) :: parts, hn, hr, hc => by
    simp only [partNeed, partOps, partMen, List.map_cons, needAll, List.flatMap_cons, Needs.append, needRoots_append] at hn
    simp only [partMen, List.flatMap_cons, hasRoots_append, Bool.and_eq_true] at hr
    simp only [List.all_cons, Bool.and_eq_true] at hc
    obtain ⟨ys, e, h⟩ := cells_rep (hi.eval hn.1.1) hc.1 (hi.root_known hr.1 hn.2.1)
    exact .cons e h (parts_rep hi (by simp only [partNeed, Needs.append]; exact ⟨hn.1.2, hn.2.2⟩) hr.2 hc.2)

def placesOf (T : Tab) : List Field → Option (List (Nat × Nat))
  | [] => some []
  | f :: fs => match T.get f.type, placesOf T fs with
    | some j, some l => some ((f.offset, j.size) :: l)
    | _, _ => none

theorem places_ok (hT : TabOk P T) : ∀ {fs : List Field} {l : List (Nat × Nat)}, placesOf T fs = some l → fs.mapM (fun f => (P.info? f.type).map fun i => (f.offset, i.size)) = some l
  | [], l, h => by simp [placesOf] at h; subst h; rfl
  | f :: fs, l, h => by
    unfold placesOf at h
    split at h
    · rename_i j l' h1 h2
      cases h
      obtain ⟨_, inf, z, e1, e2, _⟩ := hT.get h1
      simp [List.mapM_cons, e1, e2, places_ok hT h2]
    · cases h

/-- Where the parts of a struct or array type lie. -/
def placeOf (T : Tab) : TypeDesc → Option (Nat → Option (Nat × Nat))
  | .struct fs => (placesOf T fs.toList).map fun l i => l[i]?
  | .array _ e => (T.get e).map fun j i => some (i * j.size, j.size)
  | _ => none

theorem opx_build (hT : TabOk P T) {s : TypeId} {i : TI} {parts : Array (Nat × Operand)} {pl : Nat → Option (Nat × Nat)} {cells : List D} (ho : o.op = .build s parts) (hd : o.dst = some t) (ht : t < N)
    (hs : T.get s = some i) (hp : placeOf T i.desc = some pl) (h1 : oneAll i.zero = true) (hr : hasRoots st (partMen st parts.toList) = true)
    (hc : (parts.toList.all fun p => (dCells (evD st p.2)).all D.cellish) = true) (hf : dFill pl (i.zero.map D.v) (partD st parts.toList) = some cells) :
    OpX P o N (partNeed st parts.toList) [(2 * t, some (.d (.agg cells)))] [] :=
  opx_val hd ht fun Γ g a w S β Fs hi hn => by
    obtain ⟨zs, hz, hrz⟩ := fill_rep (parts_rep hi hn hr hc) (RepL_vals i.zero fun y hy => List.all_eq_true.1 h1 y hy) hf
    obtain ⟨hu, inf, z, e1, e2, e3, e4, e5⟩ := hT.get hs
    have hzc : z.cells = i.zero.toArray := by apply Array.ext'; simpa using e5
    refine ⟨.agg zs.toArray, ?_, by unfold Rep; exact ⟨zs, rfl, hrz⟩⟩
    have hb : P.built s (parts.map fun (i, x) => (i, a.eval x)).toList = some zs.toArray := by
      have hl : (parts.map fun (i, x) => (i, a.eval x)).toList = parts.toList.map fun p => (p.1, a.eval p.2) := by simp
      unfold Program.built
      rw [e1, hu, hl]
      unfold placeOf at hp
      cases hdd : i.desc <;> rw [hdd] at hp <;> simp only [reduceCtorEq] at hp
      case struct fs =>
        cases hpp : placesOf T fs.toList with
        | none => rw [hpp] at hp; cases hp
        | some l =>
          rw [hpp] at hp; cases hp
          simp only [e4, places_ok hT hpp, hzc]
          simpa using hz
      case array n e =>
        cases hj : T.get e with
        | none => rw [hj] at hp; cases hp
        | some j =>
          rw [hj] at hp; cases hp
          obtain ⟨_, inf2, z2, f1, f2, _⟩ := hT.get hj
          simp only [e4, f1, f2, hzc]
          exact hz
    simp only [execOp, ho, Sem.run_bind, run_build w s _ _ hb, Result.andThen_ok, Sem.run_pure]

theorem opx_buildSlice (hT : TabOk P T) {r : Nat} {s E : TypeId} {i j : TI} {len : Nat} {parts : Array (Nat × Operand)} {cells : List D} (ho : o.op = .buildSlice s len parts) (hd : o.dst = some t) (ht : t < N)
    (hs : T.get s = some i) (he : i.desc = .slice E) (hj : T.get E = some j) (hz : j.zero.length = j.size) (h1 : oneAll j.zero = true) (hsz : 0 < j.size) (hsm : len * j.size ≤ 16777216)
    (hr : hasRoots st (partMen st parts.toList) = true) (hc : (parts.toList.all fun p => (dCells (evD st p.2)).all D.cellish) = true)
    (hf : dFill (fun q => some (q * j.size, j.size)) (repl len j.zero) (partD st parts.toList) = some cells) (hm : (partMen st parts.toList).contains r = false) (hsub : subRefs (menL cells) (partMen st parts.toList) = true) :
    OpX P o N (partNeed st parts.toList) [(2 * t, some (.d (.rs r 0 len))), (2 * r + 1, some (.r (.arr j.size cells (partMen st parts.toList))))] [r] :=
  opx_new hd ht hm (fun m hm => List.all_eq_true.1 hsub m hm) fun Γ g a w S β Fs hi hn => by
    have hrv : RepL w S (repl len j.zero) β (List.replicate len j.zero).flatten [] := by
      have : repl len j.zero = ((List.replicate len j.zero).flatten).map D.v := by simp [repl, List.map_flatten]
      rw [this]
      refine RepL_vals _ fun y hy => ?_
      obtain ⟨l, hl, hy⟩ := List.mem_flatten.1 hy
      obtain rfl := (List.mem_replicate.1 hl).2
      exact List.all_eq_true.1 h1 y hy
    obtain ⟨zs, hzf, hrz⟩ := fill_rep (parts_rep hi hn hr hc) hrv hf
    obtain ⟨_, inf, z, e1, e2, e3, e4, e5⟩ := hT.get hj
    have hu := (hT.get hs).1
    rw [he] at hu
    have hzc : z.cells = j.zero.toArray := by apply Array.ext'; simpa using e5
    refine ⟨.slice (some ⟨w.heap.size, 0, .none⟩) len len, zs, [], E, ?_, hrz.toRes hsub, ?_⟩
    · have hl : (parts.map fun (i, x) => (i, a.eval x)).toList = parts.toList.map fun p => (p.1, a.eval p.2) := by simp
      have hcells : ((Array.range (len * j.size)).map (j.zero.toArray[· % j.zero.toArray.size]!)) = (List.replicate len j.zero).flatten.toArray := by
        apply Array.ext'; rw [← hz, range_mod _ (by omega)]
      simp only [execOp, ho, Sem.run_bind, List.append_nil]
      by_cases hl0 : len * j.size = 0
      · have hlen : len = 0 := by rcases Nat.mul_eq_zero.1 hl0 with h | h <;> omega
        subst hlen
        simp only [List.replicate_zero, List.flatten_nil] at hzf
        have hzf' : Instr.fill (fun q => some (q * j.size, j.size)) #[] (parts.map fun (i, x) => (i, a.eval x)).toList = some zs.toArray := by rw [hl]; exact hzf
        have er : ((Array.range 0).map fun i => (#[] : Array Value)[i % (#[] : Array Value).size]!) = #[] := by apply Array.ext'; simp
        simp only [Instr.buildSlice, run_underlying hu, sizeOf, typeInfo, e1, e2, Sem.run_bind, run_program, Result.andThen_ok, Sem.run_pure, Nat.zero_mul, Nat.not_lt_zero, GT.gt, if_false, if_true, er, hzf', newRow, run_newObj, World.alloc_eq]
      · have hfl : Instr.fill (fun i => some (i * inf.size, inf.size)) ((Array.range (len * inf.size)).map (z.cells[· % z.cells.size]!)) (parts.map fun (i, x) => (i, a.eval x)).toList = some zs.toArray := by
          rw [e2, hzc, hcells, hl]; exact hzf
        rw [run_buildSlice w s E len _ zs.toArray inf z hu e1 e4 (by rw [e2]; omega) (by rw [e2]; exact hl0) hfl]
        rfl
    · unfold Rep
      refine ⟨rfl, ?_⟩
      simp only [setB, if_true]
      refine ⟨len, by simp, Nat.le_refl _, ?_⟩
      have := RepL_length hrz
      have hlc : cells.length = len * j.size := by
        have : ∀ (parts : List (Nat × D)) (c c' : List D) (pl : Nat → Option (Nat × Nat)), dFill pl c parts = some c' → c'.length = c.length := by
          intro parts
          induction parts with
          | nil => intro c c' pl h; simp [dFill] at h; rw [h]
          | cons p parts ih =>
            intro c c' pl h
            obtain ⟨i, d⟩ := p
            unfold dFill at h
            split at h
            · split at h
              · rename_i hh; rw [ih _ _ _ h]; simp; omega
              · cases h
            · cases h
        rw [this _ _ _ _ hf]
        simp [repl, List.length_flatten, hz]
      simp
      omega
end
end Go.Gx
