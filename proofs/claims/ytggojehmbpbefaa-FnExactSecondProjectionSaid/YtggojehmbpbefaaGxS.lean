/- A region, run by name: the steps of its operations, the conditions that are left. -/
import Derived.Test.YtggojehmbpbefaaGxV
import Derived.Test.YtggojehmbpbefaaGxP
namespace Go.Gx

/-- What the prover gives to an operation: a value in place of the reckoned one; a call's contract; how an append takes its source. -/
inductive Orc where
  | none
  | val (d : D)
  | call (B : List Nat) (ρ : List (Nat × Nat)) (args : List D) (rout : List (Nat × Root)) (res : D)
  | app (mv : Bool)

def rhoOf (l : List (Nat × Nat)) (i : Nat) : Nat := match l.find? (·.1 == i) with
  | some p => p.2
  | none => i

structure Out where
  need : List (Nat × Ent)
  wr : Wr
  fresh : List Nat
  conds : List Prop

section
variable (P : Program) (T : Tab) (st : St)

/-- A value, reckoned or given. -/
def outV (need : List (Nat × Ent)) (t : Nat) (d : D) (cs : List Prop) : Orc → Option Out
  | .none => some ⟨need, [(2 * t, some (.d d))], [], cs⟩
  | .val d' => some ⟨need, [(2 * t, some (.d d'))], [], cs ++ [d = d']⟩
  | _ => none

def isNoneB {α : Type} : Option α → Bool
  | none => true
  | some _ => false

def sizeOK (j : TI) : Bool := decide (0 < j.size) && decide (j.zero.length = j.size) && oneAll j.zero && decide (j.bytes ≤ 512)

def neOpt : Option Nat → Option Nat → Bool
  | some k, some k' => k != k'
  | _, _ => true
def srcConds : Option Nat → D → List D → List Prop
  | none, .sl _ _ _, _ => []
  | none, _, news => [noFrL news = true]
  | some _, _, _ => []

/-- The roots that are handed in, read off the state. -/
def rinOf (st : St) (ρ : List (Nat × Nat)) : List (Nat × Nat) → Option (List (Nat × Root))
  | [] => some []
  | p :: l => match look st (2 * rhoOf ρ p.1 + 1), rinOf st ρ l with
    | some (.r x), some r => some ((p.1, x) :: r)
    | _, _ => none

/-- The roots that are lent, read off the state. -/
def rbOf (st : St) : List Nat → Option (List (Nat × Root))
  | [] => some []
  | r :: l => match look st (2 * r + 1), rbOf st l with
    | some (.r x), some rs => some ((r, x) :: rs)
    | _, _ => none

def callOut (fop : Operand) (xs : Array Operand) (dst : Option Nat) (n : Nat) : Orc → Option Out
  | .call B ρ args rout res =>
    match fnOf (evD st fop), rinOf st ρ ρ, rbOf st B with
    | some (f, caps), some rin, some rB =>
      if rinB (rhoOf ρ) rin rout && (rin.all fun p => !B.contains (rhoOf ρ p.1)) && (res.men).isEmpty && flatT res && narrow res && (!isNoneB dst || (plc n res).2.isEmpty) then
        some ⟨needOf st fop ++ (needAll st xs.toList ++ (rinNeed (rhoOf ρ) rin ++ needRoots st B)), (match dst with | some t => [(2 * t, some (.d (plc n res).1))] | none => []) ++ (wrNew (plc n res).2 ++ wrRoots (rhoOf ρ) rin rout), freshFrom n (widthT res + 1),
          [CallOk P f, BorL (rootSt rB) B (rhoOf ρ) (xs.toList.map (evD st) ++ caps) args, FnC P f rin args rout res, B = [] ∨ (NoBor res ∧ NoBorRs rout)]⟩
      else none
    | _, _, _ => none
  | _ => none

/-- The name of the root that operation t makes. -/
def nmR (t : Nat) : Nat := t + 1000

def stepOp (o : Oper) (orc : Orc) : Option Out :=
  match o.dst, o.op with
  | some t, .move x => outV (needOf st x) t (evD st x) [] orc
  | some t, .assign x => outV (needOf st x) t (evD st x) [] orc
  | some t, .pick c x y => match evD st c with
    | .v (.bool b) => outV (needOf st c ++ (needOf st x ++ needOf st y)) t (pickD b (evD st x) (evD st y)) [] orc
    | _ => none
  | some t, .nilCheck x =>
    if (evD st x).sure && hasRoots st (dRoot (evD st x)) then
      outV (needOf st x ++ needRoots st (dRoot (evD st x))) t (evD st x) [] orc else none
  | some t, .binOp op s x y _ => match dBin op (evD st x) (evD st y) with
    | some (d, cs) => outV (needOf st x ++ needOf st y) t d cs orc
    | none => match dEq P T op s (evD st x) (evD st y) with
      | some (d, cs) => outV (needOf st x ++ needOf st y) t d cs orc
      | none => none
  | some t, .unOp .not _ x => match evD st x with
    | .v (.bool b) => outV (needOf st x) t (.v (.bool (!b))) [] orc
    | _ => none
  | some t, .unOp .neg _ x => match evD st x with
    | .v (.int k n) => outV (needOf st x) t (.v (.int k (k.wrap (0 - n)))) [] orc
    | _ => none
  | some t, .convert s1 s2 x => match T.get s1, T.get s2, evD st x with
    | some _, some i2, .v (.int _ n) => match i2.desc with
      | .int k' => outV (needOf st x) t (.v (.int k' (k'.wrap n))) [] orc
      | _ => none
    | _, _, _ => none
  | some t, .fieldAddr s x f => match fieldOf T s f with
    | some fo => match dField fo (evD st x) with
      | some d => if hasRoots st (dRoot (evD st x)) then outV (needOf st x ++ needRoots st (dRoot (evD st x))) t d [] orc else none
      | none => none
    | none => none
  | some t, .indexAddr s x y => match elemSize T s with
    | some sz => match dIndex sz (evD st x) (evD st y) with
      | some (d, cs) => if hasRoots st (dRoot (evD st x)) then outV (needOf st x ++ (needOf st y ++ needRoots st (dRoot (evD st x)))) t d cs orc else none
      | none => none
    | none => none
  | some t, .load s x => match T.get s, dSees st (evD st x) with
    | some i, some (ds, off, refs) =>
      if isAggD i.desc then
        match orc with
        | .none => if ((ds.drop off).take i.size).length == i.size && subRefs (menL ((ds.drop off).take i.size)) refs && noFrL ((ds.drop off).take i.size) then
            some ⟨needOf st x ++ needRoots st (dRoot (evD st x)), [(2 * t, some (.d (.agg ((ds.drop off).take i.size))))], [], []⟩ else none
        | .val (.agg ds') => if ds'.length == i.size && subRefs (menL ds') refs && noFrL ds' then
            some ⟨needOf st x ++ needRoots st (dRoot (evD st x)), [(2 * t, some (.d (.agg ds')))], [], [(ds.drop off).take i.size = ds']⟩ else none
        | _ => none
      else
        match orc with
        | .none => match ds[off]? with
          | some d => if subRefs d.men refs && d.noFr then some ⟨needOf st x ++ needRoots st (dRoot (evD st x)), [(2 * t, some (.d d))], [], []⟩ else none
          | none => none
        | .val d => if subRefs d.men refs && d.noFr then some ⟨needOf st x ++ needRoots st (dRoot (evD st x)), [(2 * t, some (.d d))], [], [ds[off]? = some d]⟩ else none
        | _ => none
    | _, _ => none
  | none, .store s x y => match T.get s, evD st x with
    | some i, .rp r off => match look st (2 * r + 1) with
      | some (.r (.arr sz cells refs)) =>
        if (dCells (evD st y)).all D.cellish && hasRoots st (menL (dCells (evD st y))) && (dCells (evD st y)).length == i.size then
          some ⟨needOf st x ++ (needOf st y ++ (needRoot st r ++ needRoots st (menL (dCells (evD st y))))),
            [(2 * r + 1, some (.r (.arr sz (cells.take off ++ dCells (evD st y) ++ cells.drop (off + i.size)) (refs ++ menL (dCells (evD st y))))))], [], [off + i.size ≤ cells.length]⟩
        else none
      | _ => none
    | _, _ => none
  | some t, .alloc E => match T.get E with
    | some i => if oneAll i.zero then some ⟨[], [(2 * t, some (.d (.rp (nmR t) 0))), (2 * nmR t + 1, some (.r (.arr 1 (i.zero.map D.v) [])))], [nmR t], []⟩ else none
    | none => none
  | some t, .box _ x =>
    if (dCells (evD st x)).all D.cellish && hasRoots st (menL (dCells (evD st x))) && !(menL (dCells (evD st x))).contains (nmR t) then
      some ⟨needOf st x ++ needRoots st (menL (dCells (evD st x))), [(2 * t, some (.d (.rp (nmR t) 0))), (2 * nmR t + 1, some (.r (.arr 1 (dCells (evD st x)) (menL (dCells (evD st x))))))], [nmR t], []⟩ else none
  | some t, .build s parts => match T.get s with
    | some i => match placeOf T i.desc with
      | some pl => match dFill pl (i.zero.map D.v) (partD st parts.toList) with
        | some cells => if oneAll i.zero && hasRoots st (partMen st parts.toList) && (parts.toList.all fun p => (dCells (evD st p.2)).all D.cellish) then
            outV (partNeed st parts.toList) t (.agg cells) [] orc else none
        | none => none
      | none => none
    | none => none
  | some t, .buildSlice s len parts => match T.get s with
    | some i => match i.desc with
      | .slice E => match T.get E with
        | some j => match dFill (fun q => some (q * j.size, j.size)) (repl len j.zero) (partD st parts.toList) with
          | some cells => if sizeOK j && decide (len * j.size ≤ 16777216) && hasRoots st (partMen st parts.toList) && (parts.toList.all fun p => (dCells (evD st p.2)).all D.cellish) && !(partMen st parts.toList).contains (nmR t) &&
              subRefs (menL cells) (partMen st parts.toList) then
              some ⟨partNeed st parts.toList, [(2 * t, some (.d (.rs (nmR t) 0 len))), (2 * nmR t + 1, some (.r (.arr j.size cells (partMen st parts.toList))))], [nmR t], []⟩ else none
          | none => none
        | none => none
      | _ => none
    | none => none
  | some t, .makeSlice s x y => match T.get s with
    | some i => match i.desc with
      | .slice E => match T.get E with
        | some j => match evD st x, evD st y with
          | .v (.int .i64 n), .v (.int .i64 c) => if sizeOK j then
              some ⟨needOf st x ++ needOf st y, [(2 * t, some (.d (.rs (nmR t) 0 n.toNat))), (2 * nmR t + 1, some (.r (.arr j.size (repl n.toNat j.zero) [])))], [nmR t], [0 ≤ n, n ≤ c, c ≤ (lim : Int)]⟩ else none
          | _, _ => none
        | none => none
      | _ => none
    | none => none
  | some t, .extract x ix => match evD st x with
    | .tup ds => match ds[ix]? with
      | some d => outV (needOf st x) t d [] orc
      | none => none
    | _ => none
  | some t, .makeFunc (.func f) first caps =>
    if first.isEmpty && (caps.toList.all fun x => hasRoots st (dRoot (evD st x)) && (match evD st x with | .rp _ _ => true | .pt _ _ => true | _ => false)) then
      outV (needAll st caps.toList ++ caps.toList.flatMap fun x => needRoots st (dRoot (evD st x))) t (.fn f (caps.toList.map (evD st))) [] orc else none
  | some t, .call ⟨.builtin .len, xs, ts⟩ => match xs.toList, ts.toList with
    | [x], [s] => match T.get s, dLen (evD st x) with
      | some i, some n => if lenable i.desc (evD st x) && hasRoots st (dRoot (evD st x)) then outV (needOf st x ++ needRoots st (dRoot (evD st x))) t (.v (.int .i64 n)) [] orc else none
      | _, _ => none
    | _, _ => none
  | some t, .call ⟨.builtin .max, xs, _⟩ => match xs.toList with
    | [x, y] => match evD st x, evD st y with
      | .v (.int k m), .v (.int k' n) => if k = k' then outV (needOf st x ++ needOf st y) t (.v (.int k (if n > m then n else m))) [] orc else none
      | _, _ => none
    | _ => none
  | some t, .call ⟨.builtin .min, xs, _⟩ => match xs.toList with
    | [x, y] => match evD st x, evD st y with
      | .v (.int k m), .v (.int k' n) => if k = k' then outV (needOf st x ++ needOf st y) t (.v (.int k (if n < m then n else m))) [] orc else none
      | _, _ => none
    | _ => none
  | some t, .call ⟨.builtin .append, xs, ts⟩ => match orc, xs.toList, ts.toList with
    | .app mv, [x, y], [s, s'] => match T.get s with
      | some i => match i.desc with
        | .slice E => match T.get E with
          | some j => match appTo st j.size (evD st x), appSrc st j.size mv (evD st y) with
            | some (cells, refs, r, n), some (news, refs2, q, m) =>
              if s == s' && sizeOK j && !refs.contains (nmR t) && !refs2.contains (nmR t) && neOpt r q then
                some ⟨needOf st x ++ (needOf st y ++ (needRoots st (dRoot (evD st x)) ++ needRoots st (dRoot (evD st y)))),
                  [(2 * t, some (.d (.rs (nmR t) 0 (n + m)))), (2 * nmR t + 1, some (.r (.arr j.size (cells ++ news) (refs ++ refs2))))] ++ dropAll r q, [nmR t],
                  [cells.length = n * j.size, news.length = m * j.size, n + m ≤ lim] ++ srcConds q (evD st y) news⟩ else none
            | _, _ => none
          | none => none
        | _ => none
      | none => none
    | _, _, _ => none
  | dst, .call ⟨.value fop, xs, _⟩ => callOut P st fop xs dst (1000 * (dst.getD 0 + 2)) orc
  | _, _ => none
end

theorem allP_append : ∀ {l l' : List Prop}, allP (l ++ l') ↔ allP l ∧ allP l'
  | [], _ => by simp [allP]
  | p :: l, l' => by simp [allP, allP_append (l := l), and_assoc]

section
variable {P : Program} {T : Tab} {st : St} {o : Oper} {N t : Nat}

theorem outV_ok {need : List (Nat × Ent)} {d : D} {cs : List Prop} {orc : Orc} {out : Out} (h : outV need t d cs orc = some out) (hc : allP out.conds) (hx : allP cs → OpX P o N need [(2 * t, some (.d d))] []) : OpX P o N out.need out.wr out.fresh := by
  cases orc <;> simp [outV] at h
  · subst h; exact hx hc
  · subst h
    rw [allP_append] at hc
    obtain ⟨h1, h2, _⟩ := hc
    rw [← h2]; exact hx h1

end
end Go.Gx
