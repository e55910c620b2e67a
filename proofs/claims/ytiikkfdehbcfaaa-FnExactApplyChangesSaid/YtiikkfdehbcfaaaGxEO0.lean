/- Laid together: part 0. -/
import Derived.Test.YtiikkfdehbcfaaaGxE1
import Derived.Scope
import Derived.ProofKit
/- Rows that are replaced; what is lent as soon as it is made. -/
namespace Go.Gx
section
variable {α : Type} {e : Enc α} {np : Nat} {st : St}

theorem put_set {L : List D} {k : Nat} {a b : D} (h : k < L.length) : (L.set k a).take k ++ [b] ++ (L.set k a).drop (k + 1) = L.set k b := by
  have h1 : (L.set k a).set k b = L.set k b := List.set_set ..
  have h2 : k < (L.set k a).length := by rw [List.length_set]; exact h
  rw [← h1]
  generalize L.set k a = M at h2
  rw [List.set_eq_take_append_cons_drop, if_pos h2]
  simp

/-- A row that was out is gone; another is laid in its place. -/
theorem imp_rowPut (h : EncOk e) {xs : List (List α)} {i : Int} {x y : List α} {r q t n m : Nat} (hx : xs[i.toNat]? = some x) (hm : y.length = m) (hne : Nat.beq r t = false)
    (hr : look st (2 * r + 1) = some (.r (.arr 1 (((xs.flatMap (eS e).o).set (0 + i.toNat * 1) (.rs q 0 n)).take (0 + i.toNat * 1) ++ [.rs t 0 m] ++ ((xs.flatMap (eS e).o).set (0 + i.toNat * 1) (.rs q 0 n)).drop (0 + i.toNat * 1 + 1)) [q, t])))
    (hq : look st (2 * t + 1) = some (.r (.arr e.sz (y.flatMap e.o) []))) :
    Imp np st (updSt st [(2 * r + 1, some (.r (.arr 1 ((xs.set i.toNat y).flatMap (eS e).o) []))), (2 * t + 1, none)]) := by
  subst hm
  have hl := lt_flat (eS_ok h) (by rfl) hx
  have e0 := put_set (a := D.rs q 0 n) (b := D.rs t 0 y.length) hl
  rw [show i.toNat * (eS e).sz = i.toNat * 1 from rfl] at e0
  rw [e0] at hr
  have h1 : ((xs.flatMap (eS e).o).set (0 + i.toNat * 1) (D.rs t 0 y.length)).set (0 + i.toNat * 1) (.fr e.sz y.length (y.flatMap e.o)) = (xs.set i.toNat y).flatMap (eS e).o :=
    set_one (f := (eS e).o) (fun _ => rfl) hx rfl
  have h2 := imp_demote (np := np) (i := 0 + i.toNat * 1) (refs' := []) hr hq (Nat.ne_of_beq_eq_false hne) (set_at hl) (lenO_flat h y) (by rw [h1, menO_flat (eS_ok h)]; simp)
  rw [h1] at h2
  exact h2
end
end Go.Gx

/- Regions in which one operation waits for another through a third: the check of the orders, with waits at any remove. -/
namespace Go.Gx
section
variable {ops : Array Oper}

end

section
variable {P : Program} {T : Tab} {N np : Nat} {ops : Array Oper} {st : St}

end

/-- A row is laid into a list from which one has been taken out. -/
theorem store_le_set {α : Type} {e : Enc α} (h : EncOk e) {xs : List α} {i : Int} {x : α} {j : Nat} {d : D} (hx : xs[i.toNat]? = some x) : 0 + i.toNat * e.sz + e.sz ≤ ((xs.flatMap e.o).set j d).length := by
  rw [List.length_set]; exact store_le h hx

/-- What is handed on unread. -/
theorem Bor1.any {st : St} {B : List Nat} {d : D} : Bor1 st B d .any := ⟨rfl, fun _ _ _ _ _ _ _ _ _ _ _ _ _ => by unfold Rep; rfl⟩
end Go.Gx

/- A scope through which the run goes without a jump back to its label. -/
namespace Go.Gx
section
variable {P : Program} {N np : Nat} {st : St} {Q : Post}

end
/-! ### fields of a list's structs -/
section
variable {α β : Type} {e : Enc α} {e' : Enc β}
theorem set_fld {f : α → List D} {n : Nat} (hn : ∀ x, (f x).length = n) {j : Nat} (hj : j < n) {v : D} : ∀ {xs : List α} {k : Nat} {x y : α}, xs[k]? = some x → f y = (f x).set j v → (xs.flatMap f).set (0 + k * n + j) v = (xs.set k y).flatMap f
  | [], k, x, y, h, _ => by simp at h
  | z :: xs, 0, x, y, h, hy => by
    simp only [List.getElem?_cons_zero, Option.some.injEq] at h
    subst h
    simp only [Nat.zero_mul, Nat.zero_add, List.flatMap_cons, List.set_cons_zero]
    rw [List.set_append_left _ _ (by rw [hn]; exact hj), hy]
  | z :: xs, k + 1, x, y, h, hy => by
    have ih := set_fld hn hj (xs := xs) (k := k) (x := x) (y := y) (by simpa using h) hy
    rw [List.flatMap_cons, List.set_cons_succ, List.flatMap_cons, ← ih, List.set_append_right _ _ (by rw [hn, Nat.succ_mul]; omega)]
    congr 2
    rw [hn, Nat.succ_mul]; omega
theorem store_le_f (h : EncOk e) {xs : List α} {i : Int} {x : α} (hx : xs[i.toNat]? = some x) {j n : Nat} (hj : Nat.ble (j + n) e.sz = true) : 0 + i.toNat * e.sz + j + n ≤ (xs.flatMap e.o).length := by
  have := store_le h hx
  have := Nat.le_of_ble_eq_true hj
  omega
theorem set_fldE (h : EncOk e) {xs : List α} {i : Int} {x y : α} {j : Nat} {v : D} (hx : xs[i.toNat]? = some x) (hj : Nat.ble (j + 1) e.sz = true) (hy : e.o y = (e.o x).set j v) :
    (xs.flatMap e.o).take (0 + i.toNat * e.sz + j) ++ [v] ++ (xs.flatMap e.o).drop (0 + i.toNat * e.sz + j + 1) = (xs.set i.toNat y).flatMap e.o := by
  have hl := store_le_f h hx hj
  rw [← set_fld h.lenO (Nat.le_of_ble_eq_true hj) hx hy, List.set_eq_take_append_cons_drop, if_pos (by omega)]
  simp
theorem at_oj (h : EncOk e) {xs : List α} {i : Int} {x : α} {j : Nat} (hx : xs[i.toNat]? = some x) {d : D} (hd : (e.o x)[j]? = some d) : (xs.flatMap e.o)[0 + i.toNat * e.sz + j]? = some d := by
  obtain ⟨pre, post, e1, e2⟩ := flat_split h.lenO hx
  have h0 : j < (e.o x).length := (List.getElem?_eq_some_iff.1 hd).1
  rw [e1, Nat.zero_add, ← e2, List.append_assoc, List.getElem?_append_right (by omega), Nat.add_sub_cancel_left, List.getElem?_append_left h0]
  exact hd
theorem imp_fldOut {np : Nat} {st : St} (h : EncOk e) {xs : List α} {i : Int} {x : α} {l : List β} {j r q : Nat} (hx : xs[i.toNat]? = some x) (hd : (e.o x)[j]? = some (.fr e'.sz l.length (l.flatMap e'.o)))
    (hr : look st (2 * r + 1) = some (.r (.arr e.sz (xs.flatMap e.o) []))) (hf : freshB np st q = true) :
    Imp np st ((2 * q + 1, .r (.arr e'.sz (l.flatMap e'.o) [])) :: (2 * r + 1, .r (.arr e.sz ((xs.flatMap e.o).set (0 + i.toNat * e.sz + j) (.rs q 0 l.length)) [q])) :: st) :=
  imp_promote hr (at_oj h hx hd) hf
theorem imp_fldBack {np : Nat} {st : St} (h : EncOk e) (h' : EncOk e') {xs : List α} {i : Int} {x y : α} {l : List β} {j r q n : Nat} (hx : xs[i.toNat]? = some x) (hj : Nat.ble (j + 1) e.sz = true) (hy : e.o y = (e.o x).set j (.fr e'.sz l.length (l.flatMap e'.o))) (hn : n = l.length) (hne : Nat.beq r q = false)
    (hr : look st (2 * r + 1) = some (.r (.arr e.sz ((xs.flatMap e.o).set (0 + i.toNat * e.sz + j) (.rs q 0 n)) [q]))) (hq : look st (2 * q + 1) = some (.r (.arr e'.sz (l.flatMap e'.o) []))) :
    Imp np st (updSt st [(2 * r + 1, some (.r (.arr e.sz ((xs.set i.toNat y).flatMap e.o) []))), (2 * q + 1, none)]) := by
  subst hn
  have hl := store_le_f h hx hj
  have h1 : ((xs.flatMap e.o).set (0 + i.toNat * e.sz + j) (D.rs q 0 l.length)).set (0 + i.toNat * e.sz + j) (.fr e'.sz l.length (l.flatMap e'.o)) = (xs.set i.toNat y).flatMap e.o := by
    rw [List.set_set, set_fld h.lenO (Nat.le_of_ble_eq_true hj) hx hy]
  have h2 := imp_demote (np := np) (i := 0 + i.toNat * e.sz + j) (refs' := []) hr hq (Nat.ne_of_beq_eq_false hne) (set_at (by omega)) (lenO_flat h' l) (by rw [h1, menO_flat h]; simp)
  rw [h1] at h2
  exact h2
end
end Go.Gx

/- JOIN: from a function's contract to what a row says of it. -/
namespace Go.Gx
open Go.ChangeShapes Go.WideShapes Go.RowKit

/-- What a value of a readable type, read as data, stands for. -/
def ArgAs (P : Program) (t : TypeId) {α : Type} (d : α → D) (R : α → Prop) : Prop :=
  ∀ {H : Type} {enc : TypeId × Value → H} {W : World} {base : Nat} {v : Value} {dd : DataW H} {p : List MemPlace},
    Value.okWide P W .any base t v → DataW.Trod enc P W 0 (fun _ => true) true t v dd p → ∃ x, R x ∧ Rep W (allS W) (d x) noB v []

section
variable {P : Program} {t : TypeId} {α β : Type}

theorem arg_agg {fs : Array Field} {e : Enc α} {R : α → Prop} (ht : P.underlying t = some (.struct fs)) (h : ReadsAs P t e R) : ArgAs P t (fun x => .agg (e.b x)) R := by
  intro H enc W base v dd p hv hd
  obtain ⟨cs, rfl, _⟩ := okWide_struct ht hv
  obtain ⟨fuel, hf⟩ := hd
  obtain ⟨x, h1, h2⟩ := h.reads hf
  refine ⟨x, h1, ?_⟩
  unfold Rep
  exact ⟨cs.toList, by simp, h2⟩

theorem RepL_one {w : World} {S : Nat → Prop} {d : D} {v : Value} (h : RepL w S [d] noB [v] []) : Rep w S d noB v [] := by
  unfold RepL at h
  obtain ⟨y, ys, F1, F2, e, eF, _, h1, h2⟩ := h
  unfold RepL at h2
  obtain ⟨rfl, rfl⟩ := h2
  simp only [List.cons.injEq, and_true] at e
  subst e
  rw [List.append_nil] at eF
  subst eF
  exact h1

theorem arg_slice {e : TypeId} {en : Enc α} {R : List α → Prop} (ht : P.underlying t = some (.slice e)) (h : ReadsAs P t (eS en) R) : ArgAs P t (fun xs : List α => .sl xs.length 0 (xs.flatMap en.b)) R := by
  intro H enc W base v dd p hv hd
  obtain ⟨a, len, cap, rfl⟩ := okWide_slice ht hv
  obtain ⟨fuel, hf⟩ := hd
  obtain ⟨x, h1, h2⟩ := h.reads hf
  exact ⟨x, h1, RepL_one (by simp [Value.cells] at h2; exact h2)⟩

/-- All parameters. -/
def ArgsAs (P : Program) (ts : List TypeId) (d : α → List D) (R : α → Prop) : Prop :=
  ∀ {H : Type} {enc : TypeId × Value → H} {W : World} {base : Nat} {vs : List Value} {ds : List (DataW H)} {p : List MemPlace},
    (∀ (j : Nat) t v, ts[j]? = some t → vs[j]? = some v → Value.okWide P W .any base t v) → DataW.TrodAll enc P W 0 (fun _ => true) true ts vs ds p → ∃ x, R x ∧ RepT W (allS W) (d x) noB vs []

theorem args_nil : ArgsAs P [] (fun _ : Unit => []) (fun _ => True) := by
  intro H enc W base vs ds p hv hd
  obtain ⟨rfl, rfl, rfl⟩ := trodAll_nil hd
  exact ⟨(), trivial, by unfold RepT; exact ⟨rfl, rfl⟩⟩

theorem args_cons {ts : List TypeId} {d : α → D} {d' : β → List D} {R : α → Prop} {R' : β → Prop} (h : ArgAs P t d R) (h' : ArgsAs P ts d' R') :
    ArgsAs P (t :: ts) (fun x : α × β => d x.1 :: d' x.2) (fun x => R x.1 ∧ R' x.2) := by
  intro H enc W base vs ds p hv hd
  obtain ⟨v, vs1, dd, ds1, a, b, rfl, rfl, rfl, h1, h2⟩ := trodAll_cons hd
  obtain ⟨x, g1, g2⟩ := h (hv 0 t v rfl rfl) h1
  obtain ⟨y, g3, g4⟩ := h' (fun j t v e1 e2 => hv (j + 1) t v (by simpa using e1) (by simpa using e2)) h2
  exact ⟨(x, y), ⟨g1, g3⟩, by unfold RepT; exact ⟨v, vs1, [], [], rfl, rfl, g2, g4⟩⟩
end

section
variable {P : Program} {f : FuncId}

/-- A contract without roots, at borrowed arguments: what was there stays. -/
theorem calls_true {args : List D} (hF : FnC P f [] args [] (bv true)) {W : World} {vs : Array Value} (hr : RepT W (allS W) args noB vs.toList []) :
    Calls P f vs W fun e W' => e = .returned (.bool true) ∧ Below W.heap.size W W' := by
  have hroots : Roots (look (rootSt [])) W (allS W) noB (fun _ => []) :=
    ⟨fun r x h => by simp [rootSt, look] at h, fun _ _ => rfl, fun _ => List.nodup_nil, fun _ _ _ b hb => by simp at hb, fun _ b hb => by simp at hb, fun b hb => hb⟩
  have h1 := hF W (allS W) noB (fun _ => []) vs.toList hroots hr
  rw [show vs.toList.toArray = vs from by simp] at h1
  refine h1.mono fun e W' ⟨y, S', Fs', F, he, hx, _, _, _, _, hy, _, _⟩ => ?_
  have hy' : y = .bool true := by
    unfold bv Rep at hy; exact hy.1
  subst hy'
  refine ⟨he, hx.os, hx.tape, hx.output, hx.size, fun k hk => hx.kept k hk fun ⟨r, hb⟩ => by simp at hb⟩

theorem trodAll_stays {H : Type} {enc : TypeId × Value → H} (hl : laidOutB P = true) {W W' : World} {sp : Nat → Bool} : ∀ {ts : List TypeId} {vs : List Value} {ds : List (DataW H)} {p : List MemPlace},
    ts.all (fun t => P.readableRec t && decide (t < P.types.size)) = true → DataW.TrodAll enc P W 0 (fun _ => true) true ts vs ds p → (∀ x ∈ p, W.sameAt W' x) → (∀ x ∈ p, sp x.block = true) → DataW.TrodAll enc P W' 0 sp true ts vs ds p
  | [], _, _, _, _, h, _, _ => by
    obtain ⟨rfl, rfl, rfl⟩ := trodAll_nil h
    exact h
  | t :: ts, _, _, _, ht, h, h1, h2 => by
    obtain ⟨v, vs1, dd, ds1, a, b, rfl, rfl, rfl, g1, g2⟩ := trodAll_cons h
    simp only [List.all_cons, Bool.and_eq_true, decide_eq_true_eq] at ht
    exact ⟨a, b, WideElems.Trod_stays hl ht.1.1 ht.1.2 g1 (fun x hx => h1 x (List.mem_append_left _ hx)) (fun x hx => h2 x (List.mem_append_left _ hx)),
      trodAll_stays hl ht.2 g2 (fun x hx => h1 x (List.mem_append_right _ hx)) (fun x hx => h2 x (List.mem_append_right _ hx)), rfl⟩

theorem trodVars_nil {H : Type} {enc : TypeId × Value → H} {w : World} {sp : Nat → Bool} {gs : List (DataW H)} {q : List MemPlace} (h : DataW.TrodVars enc P w sp [] gs q) : gs = [] ∧ q = [] := by
  cases gs with
  | nil => exact ⟨rfl, h⟩
  | cons g gs => exact absurd h (by simp [DataW.TrodVars])

theorem trodAll_length {H : Type} {enc : TypeId × Value → H} {w : World} {base : Nat} {sp : Nat → Bool} {held : Bool} : ∀ {ts : List TypeId} {vs : List Value} {ds : List (DataW H)} {p : List MemPlace}, DataW.TrodAll enc P w base sp held ts vs ds p → ds.length = ts.length
  | [], _, _, _, h => by
    obtain ⟨rfl, rfl, rfl⟩ := trodAll_nil h
    rfl
  | t :: ts, _, _, _, h => by
    obtain ⟨v, vs1, dd, ds1, a, b, rfl, rfl, rfl, g1, g2⟩ := trodAll_cons h
    rw [List.length_cons, List.length_cons, trodAll_length g2]

/-- Below the heap's old size nothing has turned, and 'true' came back. -/
theorem post_true {H : Type} {enc : TypeId × Value → H} {fn : Func} {s : ChangeSpec} {apart fresh handsOn again : Bool} {W W' : World} {args : Array Value} {ds gs : List (DataW H)} {before : List MemPlace} {tb : TypeId}
    (hl : laidOutB P = true) (hts : fn.params.toList.all (fun t => P.readableRec t && decide (t < P.types.size)) = true) (hr : fn.resultTypes = #[tb]) (htb : P.underlying tb = some .bool) (hv : s.vars = [])
    {n : Nat} (hnp : fn.params.toList.length = n) (hfn0 : ∀ ds : List (DataW H), ds.length = n → s.fn H ds = ⟨[.lit (.bool true)], ds, []⟩)
    (hW : DataW.Whole enc P fn.params.toList s.vars apart W args.toList ds gs before) (hb : Below W.heap.size W W') : s.post enc P fn apart fresh handsOn again W args (.bool true) W' := by
  have hW' := hW
  obtain ⟨p, q, hA, hV, rfl, hz, hn⟩ := hW
  rw [hv] at hV
  obtain ⟨rfl, rfl⟩ := trodVars_nil hV
  rw [List.append_nil] at hW' hz hn
  have hfn := hfn0 ds ((trodAll_length hA).trans hnp)
  have hold : ∀ x ∈ p, x.block < W.heap.size := fun x hx => by simpa using hW'.lt x hx
  have hres : ∀ (b : Nat) (sp : Nat → Bool) (hd : Bool), DataW.TrodAll enc P W' b sp hd fn.resultTypes.toList ((Value.bool true).resultList fn.resultTypes.size) (s.fn H (ds ++ [])).results [] := by
    intro b sp hd
    rw [List.append_nil, hfn, hr]
    exact trodAll_mk1 (shut_bool htb _)
  have hargs : ∀ sp : Nat → Bool, (∀ x ∈ p, sp x.block = true) → DataW.TrodAll enc P W' 0 sp true fn.params.toList args.toList (s.fn H (ds ++ [])).args p := by
    intro sp hs
    rw [List.append_nil, hfn]
    exact trodAll_stays hl hts hA (fun x hx => hb.same (hold x hx)) hs
  have hvars : ∀ sp : Nat → Bool, DataW.TrodVars enc P W' sp s.vars (s.fn H (ds ++ [])).vars [] := by
    intro sp
    rw [List.append_nil, hfn, hv]
    rfl
  refine ⟨ds, [], p, [], p, [], hW', hres _ _ _, hargs _ (fun x hx => by simpa using hold x hx), hvars _, hb.frame _, fun _ => ⟨?_, ?_⟩⟩
  · exact ok_one hr rfl (okWide_bool_mk htb _)
  · refine ⟨_, _, ([] ++ p) ++ [], ⟨[] ++ p, [], trodAll_append (hargs _ (fun _ _ => rfl)) (hres _ _ _), hvars _, rfl, ?_, ?_⟩, ?_⟩
    · intro b off hp
      simp only [List.nil_append, List.append_nil] at hp
      rw [hb.frozen (p := ⟨b, off, none⟩) (hold _ hp)]
      exact hz b off hp
    · intro ha
      simpa using hn ha
    · intro x hx _
      simpa using hx
end
end Go.Gx
